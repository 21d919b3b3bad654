/- What the row of the law FnExactIsCorrectLayout stands on, part 5. -/
import Derived.Test.YtgcagmmghckbbaaMFnExactIsCorrectLayout4
namespace Go.Proofs.Ytgcagmmghckbbaa.A
open Go.RowKit Go.Proofs.YtgcagmmghckbbaaW.PrintWords Go.Proofs.YtgcagmmghckbbaaW.PrintLast Go.Proofs.YtgcagmmghckbbaaW.PrintMore
attribute [local go_sem] max2_int min2_int max_two min_two max_three min_three max_four min_four   -- for this text's walks alone
set_option linter.unusedVariables false
set_option linter.unusedSimpArgs false

mutual
def impl_isCorrect.l0 : Nat → List (S24) → Int → Int → List Bool → List (S24) → List (S74) → Int → Int → Option (Bool)
  | 0, _, _, _, _, _, _, _, _ => none
  | k + 1, x0, x1, x2, x9, x10, x23, x24, x25 => if x25 < x24 then (if 0 ≤ x25 then (if x25 < (x23.length : Int) then ((impl_within.f ((rd_T74 x23 x25).f0) 0 (wrap64 ((x0.length : Int) - 1))).bind fun t514 => (if t514 = true then ((impl_within.f ((rd_T74 x23 x25).f1) 0 3).bind fun t515 => (if t515 = true then (if 0 ≤ ((rd_T74 x23 x25).f0) then (if ((rd_T74 x23 x25).f0) < (x9.length : Int) then (impl_isCorrect.j1 k x0 x1 x2 x9 x10 x23 x24 x25 (rdOf false x9 ((rd_T74 x23 x25).f0)) ((rd_T74 x23 x25).f0) ((rd_T74 x23 x25).f1)) else (none)) else (none)) else (impl_isCorrect.j1 k x0 x1 x2 x9 x10 x23 x24 x25 true ((rd_T74 x23 x25).f0) ((rd_T74 x23 x25).f1)))) else (impl_isCorrect.j1 k x0 x1 x2 x9 x10 x23 x24 x25 true ((rd_T74 x23 x25).f0) ((rd_T74 x23 x25).f1)))) else (none)) else (none)) else (some true)
def impl_isCorrect.j1 : Nat → List (S24) → Int → Int → List Bool → List (S24) → List (S74) → Int → Int → Bool → Int → Int → Option (Bool)
  | 0, _, _, _, _, _, _, _, _, _, _, _ => none
  | k + 1, x0, x1, x2, x9, x10, x23, x24, x25, x48, x514000, x514001 => if x48 = true then (some false) else (if 0 ≤ x514000 then (if x514000 < (x9.length : Int) then (if x514000 < (x0.length : Int) then ((impl_turnTile.f k ((rd_T24 x0 x514000).f0) ((rd_T24 x0 x514000).f1) ((rd_T24 x0 x514000).f2) ((rd_T24 x0 x514000).f3) x514001).bind fun bt519 => ((impl_fits.f k bt519.1 bt519.2.1 bt519.2.2.1 bt519.2.2.2 x10 x1 x2).bind fun t524 => (if t524 = true then (if x10.length < 4398046511104 then (impl_isCorrect.l0 k x0 x1 x2 (x9.set (x514000 : Int).toNat true) (x10 ++ [(⟨bt519.1, bt519.2.1, bt519.2.2.1, bt519.2.2.2⟩ : S24)]) x23 x24 (wrap64 (x25 + 1))) else (none)) else (some false)))) else (none)) else (none)) else (none))
end
def impl_isCorrect.f (k : Nat) (l0 : List (S24)) (a1 : Int) (a2 : Int) (l3 : List (S74)) : Option (Bool) := if (l3.length : Int) = (l0.length : Int) then (if 0 ≤ (l0.length : Int) then (if ((l0.length : Int) : Int).toNat ≤ 281474976710656 then (impl_isCorrect.l0 k l0 a1 a2 (List.replicate ((l0.length : Int) : Int).toNat false) (([] : List (S24))) l3 (l3.length : Int) 0) else (none)) else (none)) else (some false)
def impl_isCorrect.T11 : Bool × List (List Nat × List Nat) := (true, [([], []), ([], []), ([1], [1]), ([0, 2], [0, 2]), ([3], [3]), ([], []), ([5], [5]), ([4, 6], [4, 6]), ([], []), ([8, 7, 7, 0, 1, 2, 3, 4, 5, 6, 7, 8], [7, 8])])
def impl_isCorrect.B11 : List Nat := [0, 0, 2, 7, 15, 0, 32, 127, 0, 511]
theorem impl_isCorrect.tab11 : rtab .any (opsOf Try.f64 11) = impl_isCorrect.T11 := by kernel_rfl
theorem impl_isCorrect.bits11 : waitsOk impl_isCorrect.T11.2 impl_isCorrect.B11 = true := by kernel_rfl
set_option maxHeartbeats 8000000 in
set_option maxRecDepth 100000 in
theorem impl_isCorrect.calls (k : Nat) (A0 : Option Addr) (c0 : Nat) (l0 : List (S24)) (a1 : Int) (a2 : Int) (A3 : Option Addr) (c3 : Nat) (l3 : List (S74)) (r : Bool) (w : World) (hr0 : Kd.C k24 w A0 l0.length l0) (hc0 : l0.length ≤ c0) (hr3 : Kd.C k74 w A3 l3.length l3) (hc3 : l3.length ≤ c3) (h : impl_isCorrect.f k l0 a1 a2 l3 = some r) :
    Calls Try.prog 64 #[.slice A0 l0.length c0, .int .i64 a1, .int .i64 a2, .slice A3 l3.length c3] w fun e w' => e = .returned (.bool r) ∧ Below w.heap.size w w' := by
  have hu74 := Try.underlying74
  have hu24 := Try.underlying24
  have HR0 := Aside0.mk hr0
  have HC0 := Aside0.mk hc0
  clear hr0 hc0
  have HR3 := Aside0.mk hr3
  have HC3 := Aside0.mk hc3
  clear hr3 hc3
  have HB := Aside0.mk (Below.refl w.heap.size w)
  have H : (if (l3.length : Int) = (l0.length : Int) then (if 0 ≤ (l0.length : Int) then (if ((l0.length : Int) : Int).toNat ≤ 281474976710656 then (impl_isCorrect.l0 k l0 a1 a2 (List.replicate ((l0.length : Int) : Int).toNat false) (([] : List (S24))) l3 (l3.length : Int) 0) else (none)) else (none)) else (some false)) = some r := h
  clear h
  by_cases c5 : (l3.length : Int) = (l0.length : Int)
  · rw [if_pos c5] at H
    have c5b0 : ((l3.length : Int) == (l0.length : Int)) = true := beq_iff_eq.mpr c5
    have c5b1 : ((l3.length : Int) != (l0.length : Int)) = false := bne_eq_false_iff_eq.mpr c5
    have c5b2 : (l3.length == l0.length) = true := by first | simpa using c5 | (simp at c5 ⊢; omega)
    clear c5
    by_cases c6 : 0 ≤ (l0.length : Int)
    · rw [if_pos c6] at H
      have c6b0 := eq_true c6
      have c6b1 : decide (0 ≤ (l0.length : Int)) = true := decide_eq_true c6
      clear c6
      by_cases c7 : ((l0.length : Int) : Int).toNat ≤ 281474976710656
      · rw [if_pos c7] at H
        have c7b0 := eq_true c7
        have c7b1 : decide (((l0.length : Int) : Int).toNat ≤ 281474976710656) = true := decide_eq_true c7
        clear c7
        obtain ⟨y506, hy506⟩ : ∃ y_ : List Bool, y_ = (List.replicate ((l0.length : Int) : Int).toNat false) := ⟨_, rfl⟩
        replace H : (impl_isCorrect.l0 k l0 a1 a2 y506 (([] : List (S24))) l3 (l3.length : Int) 0) = some r := by first | (rw [hy506]; with_reducible exact H) | (have H2_ := (Option.bind_some _ _).symm.trans H; rw [hy506]; with_reducible exact H2_) | (have H2_ := (Option.bind_some _ _).symm.trans H; with_reducible exact H2_) | with_reducible exact H | (rw [hy506]; exact H) | exact H
        have Ny506 := Aside0.mk hy506
        clear hy506
        obtain ⟨y509, hy509⟩ : ∃ y_ : List (S24), y_ = (([] : List (S24))) := ⟨_, rfl⟩
        replace H : (impl_isCorrect.l0 k l0 a1 a2 y506 y509 l3 (l3.length : Int) 0) = some r := by first | (rw [hy509]; with_reducible exact H) | (have H2_ := (Option.bind_some _ _).symm.trans H; rw [hy509]; with_reducible exact H2_) | (have H2_ := (Option.bind_some _ _).symm.trans H; with_reducible exact H2_) | with_reducible exact H | (rw [hy509]; exact H) | exact H
        have Ny509 := Aside0.mk hy509
        clear hy509
        have H' := Aside0.mk H
        clear H
        go_enter Try.func64, Try.ntmps64
        go_wp2_with (first | ((with_reducible refine gate_dst (N := 21) rfl ?_); refine Kd.R_make Kd.bool _ 4 rfl (N := 21) rfl 90 _ _ rfl (l0.length : Int) rfl rfl Try.underlying90 (.bool false) 1 info4 rfl (by decide) (by omega) false (ok := fun _ => True) (okp := fun _ => True) rfl (fun _ hk => hk) trivial (of_decide_eq_true (by first | (with_reducible assumption) | assumption)) (Nat.le_trans (Nat.mul_le_mul_right _ (of_decide_eq_true (by first | (with_reducible assumption) | assumption) : (l0.length : Int).toNat ≤ 281474976710656)) (by omega)) (Below.refl _ _) (Nat.le_refl _) ?_; intro v507 w8 ho9 hb hg_ hnew_; clear hg_ hnew_; (first | rw [← Ny506.out] at ho9 | (simp only [Int.reduceToNat] at ho9; rw [← Ny506.out] at ho9)); have n0_ := Aside0.mk (Kd.R_lower ho9 (below_size (by repeat (first | (with_reducible first | exact HB.out | apply below_alloc | apply pw_below_drewN | apply below_drew1) | exact HB.out)))); have n1_ := Aside0.mk (below_step (by repeat (first | (with_reducible first | exact HB.out | apply below_alloc | apply pw_below_drewN | apply below_drew1) | exact HB.out)) hb); clear HB; have HO508 := n0_; have HB := n1_; clear n0_ n1_; clear hb ho9) | ((with_reducible refine gate_dst (N := 22) rfl ?_); refine Kd.R_lit k24 _ 24 ?hg (N := 22) ?hd (xs := ([] : List (S24))) (inner := []) (ok := fun _ => True) (okp := fun _ => True) ?hr ?hp (fun _ hk => hk) trivial (Below.refl _ _) (Nat.le_refl _) (by simp) ?_; (case hd => rfl); (case hg => rfl); (case hr => first | (go_simp; done) | (go_simp; rfl)); (case hp => exact (Reps.none _ _)); intro v510 w10 ho11 hb hg_ hnew_; clear hg_ hnew_; (first | rw [← Ny509.out] at ho11 | (simp only [Int.reduceToNat] at ho11; rw [← Ny509.out] at ho11)); have n0_ := Aside0.mk (Kd.R_below (by (with_reducible repeat (first | apply Kd.R_alloc | apply Kd.R_drewN | apply Kd.R_drew)); exact HO508.out) hb); have n1_ := Aside0.mk (Kd.R_lower ho11 (below_size (by repeat (first | (with_reducible first | exact HB.out | apply below_alloc | apply pw_below_drewN | apply below_drew1) | exact HB.out)))); have n2_ := Aside0.mk (below_step (by repeat (first | (with_reducible first | exact HB.out | apply below_alloc | apply pw_below_drewN | apply below_drew1) | exact HB.out)) hb); clear HO508; clear HB; have HO508 := n0_; have HO511 := n1_; have HB := n2_; clear n0_ n1_ n2_; clear hb ho11))
        go_loopg [10, 25] k (fun kq v10 v25 w' => ∃ (x9_1 : List Bool) (x10_1 : List (S24)) (x25_1 : Int), v25 = .int .i64 x25_1 ∧ Aside0 (impl_isCorrect.l0 kq l0 a1 a2 x9_1 x10_1 l3 (l3.length : Int) x25_1 = some r) ∧ Aside0 (kq ≤ k) ∧ Aside0 (Kd.R Kd.bool 4 w' w.heap.size (fun _ => True) v507 x9_1) ∧ Aside0 (Kd.R k24 24 w' w.heap.size (fun _ => True) v10 x10_1) ∧ Aside0 (Below w.heap.size w w'))
        case atStart => exact ⟨(y506), (y509), (0), (by first | rfl | (simp; done) | (simp [*]; done)), H', ⟨Nat.le_refl _⟩, ⟨by (with_reducible repeat (first | apply Kd.R_alloc | apply Kd.R_drewN | apply Kd.R_drew)); exact HO508.out⟩, ⟨by (with_reducible repeat (first | apply Kd.R_alloc | apply Kd.R_drewN | apply Kd.R_drew)); exact HO511.out⟩, ⟨by repeat (first | (with_reducible first | exact HB.out | apply below_alloc | apply pw_below_drewN | apply below_drew1) | exact HB.out)⟩⟩
        case round =>
          clear H'
          try clear p2
          try clear c3
          try clear c5
          try clear c5b0
          try clear c5b1
          try clear c5b2
          try clear c6
          try clear c6b0
          try clear c6b1
          try clear c7
          try clear c7b0
          try clear c7b1
          obtain ⟨x9_1, x10_1, x25_1, rfl, HA, HK1, HO_9, HO_10, HB⟩ := hrel
          cases gk with
          | zero => exact absurd HA.out (by simp [impl_isCorrect.l0])
          | succ k1 =>
            have H := HA.out
            clear HA
            simp only [impl_isCorrect.l0] at H
            by_cases c12 : x25_1 < (l3.length : Int)
            · rw [if_pos c12] at H
              have c12b0 : decide (x25_1 < (l3.length : Int)) = true := decide_eq_true c12
              clear c12
              by_cases c13 : 0 ≤ x25_1
              · rw [if_pos c13] at H
                have c13b0 : decide (0 ≤ x25_1) = true := decide_eq_true c13
                clear c13
                by_cases c14 : x25_1 < (l3.length : Int)
                · rw [if_pos c14] at H
                  have c14b0 : decide (x25_1 < (l3.length : Int)) = true := decide_eq_true c14
                  clear c14
                  have HC15 := Aside0.mk H
                  clear H
                  have p512 : 0 ≤ (x25_1 : Int) := of_decide_eq_true (by first | (with_reducible assumption) | assumption)
                  have q512 : x25_1 < (l3.length : Int) := of_decide_eq_true (by first | (with_reducible assumption) | assumption)
                  obtain ⟨ad512, e512, hx512_0, hx512_1⟩ := at_T74 HR3.out x25_1 p512 q512
                  cases e512
                  replace hx512_0 := (HB.out.cell (World.block_lt_of_cell? w _ hx512_0)).trans hx512_0
                  replace hx512_1 := (HB.out.cell (World.block_lt_of_cell? w _ hx512_1)).trans hx512_1
                  replace p512 := eq_true p512
                  replace q512 := eq_true q512
                  go_upto_region 8 with (first | ((with_reducible refine gate_dst (N := 12) rfl ?_); refine box_event ?hg (N := 12) ?hd (cs := #[.int .i64 0, .int .i64 0]) (t := 74) ?hr ?_; (case hd => rfl); (case hg => rfl); (case hr => first | (go_simp; done) | (go_simp; rfl)); intro gb513 hg w16 hbox hb; have n0_ := Aside0.mk (Kd.R_below (by (with_reducible repeat (first | apply Kd.R_alloc | apply Kd.R_drewN | apply Kd.R_drew)); exact HO_9.out) hb); have n1_ := Aside0.mk (Kd.R_below (by (with_reducible repeat (first | apply Kd.R_alloc | apply Kd.R_drewN | apply Kd.R_drew)); exact HO_10.out) hb); have n2_ := Aside0.mk (below_step (by repeat (first | (with_reducible first | exact HB.out | apply below_alloc | apply pw_below_drewN | apply below_drew1) | exact HB.out)) hb); have n3_ := Aside0.mk (hbox); have n4_ := Aside0.mk ((by rw [hg]; exact (below_size (by repeat (first | (with_reducible first | exact HB.out | apply below_alloc | apply pw_below_drewN | apply below_drew1) | exact HB.out))) : w.heap.size ≤ gb513)); have n5_ := Aside0.mk ((by rw [hg]; exact (below_size (by repeat (first | (with_reducible first | exact HB.out | apply below_alloc | apply pw_below_drewN | apply below_drew1) | exact HB.out))) : w.heap.size ≤ gb513)); clear HO_9; clear HO_10; clear HB; have HO_9 := n0_; have HO_10 := n1_; have HB := n2_; have BK513 := n3_; have GW513 := n4_; have GE513 := n5_; clear n0_ n1_ n2_ n3_ n4_ n5_; clear hb hbox hg; have hcz17_0 : w16.cell? ⟨gb513, 0, none⟩ = some (.int .i64 0) := (blk_cell BK513.out 0).trans rfl; have hcz17_1 : w16.cell? ⟨gb513, 1, none⟩ = some (.int .i64 0) := (blk_cell BK513.out 1).trans rfl; have hfz17_0 := blk_frozen BK513.out 0; have hfz17_1 := blk_frozen BK513.out 1))
                  (try simp only [Act.put, List.setIfInBounds_toArray, List.set_cons_zero, List.set_cons_succ])
                  go_cut [48] (fun v48 wc => ∃ (kq : Nat) (x48_14 : Bool), v48 = .bool x48_14 ∧ Aside0 (impl_isCorrect.j1 kq l0 a1 a2 x9_1 x10_1 l3 (l3.length : Int) x25_1 x48_14 ((rd_T74 l3 x25_1).f0) ((rd_T74 l3 x25_1).f1) = some r) ∧ Aside0 (kq ≤ k1) ∧ Aside0 (Kd.R Kd.bool 4 wc w.heap.size (fun _ => True) v507 x9_1) ∧ Aside0 (Kd.R k24 24 wc w.heap.size (fun _ => True) u10 x10_1) ∧ Aside0 (wc.heap[gb513]? = some (.cells #[.int .i64 ((rd_T74 l3 x25_1).f0), .int .i64 ((rd_T74 l3 x25_1).f1)] 74 (0, 0))) ∧ Aside0 (Below w.heap.size w wc))
                  case first =>
                    have H := HC15.out
                    clear HC15
                    replace H := Option.bind_eq_some_iff.mp H
                    obtain ⟨t514, A180, H⟩ := H
                    replace H : (if t514 = true then ((impl_within.f ((rd_T74 l3 x25_1).f1) 0 3).bind fun t515 => (if t515 = true then (if 0 ≤ ((rd_T74 l3 x25_1).f0) then (if ((rd_T74 l3 x25_1).f0) < (x9_1.length : Int) then (impl_isCorrect.j1 k1 l0 a1 a2 x9_1 x10_1 l3 (l3.length : Int) x25_1 (rdOf false x9_1 ((rd_T74 l3 x25_1).f0)) ((rd_T74 l3 x25_1).f0) ((rd_T74 l3 x25_1).f1)) else (none)) else (none)) else (impl_isCorrect.j1 k1 l0 a1 a2 x9_1 x10_1 l3 (l3.length : Int) x25_1 true ((rd_T74 l3 x25_1).f0) ((rd_T74 l3 x25_1).f1)))) else (impl_isCorrect.j1 k1 l0 a1 a2 x9_1 x10_1 l3 (l3.length : Int) x25_1 true ((rd_T74 l3 x25_1).f0) ((rd_T74 l3 x25_1).f1))) = some r := H
                    have A18 := Aside0.mk A180
                    clear A180
                    by_cases c19 : t514 = true
                    · subst c19
                      have H1 : ((impl_within.f ((rd_T74 l3 x25_1).f1) 0 3).bind fun t515 => (if t515 = true then (if 0 ≤ ((rd_T74 l3 x25_1).f0) then (if ((rd_T74 l3 x25_1).f0) < (x9_1.length : Int) then (impl_isCorrect.j1 k1 l0 a1 a2 x9_1 x10_1 l3 (l3.length : Int) x25_1 (rdOf false x9_1 ((rd_T74 l3 x25_1).f0)) ((rd_T74 l3 x25_1).f0) ((rd_T74 l3 x25_1).f1)) else (none)) else (none)) else (impl_isCorrect.j1 k1 l0 a1 a2 x9_1 x10_1 l3 (l3.length : Int) x25_1 true ((rd_T74 l3 x25_1).f0) ((rd_T74 l3 x25_1).f1)))) = some r := by rw [if_pos rfl] at H; exact H
                      clear H
                      have H := H1
                      clear H1
                      replace H := Option.bind_eq_some_iff.mp H
                      obtain ⟨t515, A200, H⟩ := H
                      replace H : (if t515 = true then (if 0 ≤ ((rd_T74 l3 x25_1).f0) then (if ((rd_T74 l3 x25_1).f0) < (x9_1.length : Int) then (impl_isCorrect.j1 k1 l0 a1 a2 x9_1 x10_1 l3 (l3.length : Int) x25_1 (rdOf false x9_1 ((rd_T74 l3 x25_1).f0)) ((rd_T74 l3 x25_1).f0) ((rd_T74 l3 x25_1).f1)) else (none)) else (none)) else (impl_isCorrect.j1 k1 l0 a1 a2 x9_1 x10_1 l3 (l3.length : Int) x25_1 true ((rd_T74 l3 x25_1).f0) ((rd_T74 l3 x25_1).f1))) = some r := H
                      have A20 := Aside0.mk A200
                      clear A200
                      by_cases c21 : t515 = true
                      · subst c21
                        have H1 : (if 0 ≤ ((rd_T74 l3 x25_1).f0) then (if ((rd_T74 l3 x25_1).f0) < (x9_1.length : Int) then (impl_isCorrect.j1 k1 l0 a1 a2 x9_1 x10_1 l3 (l3.length : Int) x25_1 (rdOf false x9_1 ((rd_T74 l3 x25_1).f0)) ((rd_T74 l3 x25_1).f0) ((rd_T74 l3 x25_1).f1)) else (none)) else (none)) = some r := by rw [if_pos rfl] at H; exact H
                        clear H
                        have H := H1
                        clear H1
                        by_cases c22 : 0 ≤ ((rd_T74 l3 x25_1).f0)
                        · rw [if_pos c22] at H
                          have c22b0 : decide (0 ≤ ((rd_T74 l3 x25_1).f0)) = true := decide_eq_true c22
                          clear c22
                          (first | rw [c22b0] | (simp only [i64_w, i32_w]; rw [c22b0]) | skip)
                          by_cases c23 : ((rd_T74 l3 x25_1).f0) < (x9_1.length : Int)
                          · rw [if_pos c23] at H
                            have c23b0 : decide (((rd_T74 l3 x25_1).f0) < (x9_1.length : Int)) = true := decide_eq_true c23
                            clear c23
                            have H' := Aside0.mk H
                            clear H
                            have hcz24_0 : w16.cell? ⟨gb513, 0, none⟩ = some (.int .i64 0) := (blk_cell BK513.out 0).trans rfl
                            have hcz24_1 : w16.cell? ⟨gb513, 1, none⟩ = some (.int .i64 0) := (blk_cell BK513.out 1).trans rfl
                            have hfz24_0 := blk_frozen BK513.out 0
                            have hfz24_1 := blk_frozen BK513.out 1
                            go_wp2_with (first | ((with_reducible refine gate_callee (f := 53) rfl ?_); refine goesL_ (some 34) rfl rfl Try.func53 (by kernel_rfl) rfl #[.int .i64 ((rd_T74 l3 x25_1).f0), .int .i64 0, .int .i64 (wrap64 ((l0.length : Int) - 1))] rfl (by (try simp only [List.map_toArray, List.map_cons, List.map_nil]); first | done | rfl | (simp only [List.length_drop, List.length_take]; rfl)) ?_; (with_reducible refine (impl_within.calls ((rd_T74 l3 x25_1).f0) 0 (wrap64 ((l0.length : Int) - 1)) true _ A18.out).mono ?_); rintro e w' ⟨rfl, ⟨nd, rfl⟩⟩; refine ⟨_, rfl, ?_⟩) | (go_at_call 53; (with_reducible refine (impl_within.calls ((rd_T74 l3 x25_1).f1) 0 3 true _ A20.out).mono ?_); rintro e w' ⟨rfl, ⟨nd, rfl⟩⟩; obtain ⟨Ao25, co25, eo25⟩ := Kd.R_slice HO_9.out; subst eo25; have p516 : 0 ≤ (((rd_T74 l3 x25_1).f0) : Int) := of_decide_eq_true (by first | (with_reducible assumption) | assumption); have q516 : ((rd_T74 l3 x25_1).f0) < (x9_1.length : Int) := of_decide_eq_true (by first | (with_reducible assumption) | assumption); obtain ⟨ad516, e516, hx516_0⟩ := Kd.at_bool (Kd.R_reads' HO_9.out).2.2 ((rd_T74 l3 x25_1).f0) p516 q516; cases e516; have hn516_0 : ad516.block ≠ gb513 := Kd.own_blk (Kd.R_ne HO_9.out BK513.out (by decide)); have hn516_1 : ad516.block ≠ gb513 := Kd.own_blk (Kd.R_ne HO_9.out BK513.out (by decide)); replace hx516_0 := (cell_far (p := ⟨gb513, 0, none⟩) (by first | (rw [add_block]; exact hn516_0) | (show (Addr.add _ _).block ≠ _; rw [add_block]; exact hn516_0) | exact hn516_0) (.int .i64 ((rd_T74 l3 x25_1).f0))).trans hx516_0; replace hx516_0 := (cell_far (p := ⟨gb513, 1, none⟩) (by first | (rw [add_block]; exact hn516_1) | (show (Addr.add _ _).block ≠ _; rw [add_block]; exact hn516_1) | exact hn516_1) (.int .i64 ((rd_T74 l3 x25_1).f1))).trans hx516_0; clear hn516_0; clear hn516_1; replace p516 := eq_true p516; replace q516 := eq_true q516))
                            go_meet
                            case rel => exact ⟨_, (rdOf false x9_1 ((rd_T74 l3 x25_1).f0)), (by first | rfl | (simp; done) | (simp [*]; done)), H', ⟨by have := HK1.out; first | omega | exact Nat.le_refl _⟩, ⟨by (with_reducible repeat (first | apply Kd.R_alloc | apply Kd.R_drewN | apply Kd.R_drew)); exact Kd.R_mono (Kd.R_far (p := ⟨gb513, 1, none⟩) (Kd.R_far (p := ⟨gb513, 0, none⟩) (Kd.R_types HO_9.out BK513.out (by decide)) (fun _ hk => hk.2) (.int .i64 ((rd_T74 l3 x25_1).f0))) (fun _ hk => hk.2) (.int .i64 ((rd_T74 l3 x25_1).f1))) (fun _ hk => trivial)⟩, ⟨by (with_reducible repeat (first | apply Kd.R_alloc | apply Kd.R_drewN | apply Kd.R_drew)); exact Kd.R_mono (Kd.R_far (p := ⟨gb513, 1, none⟩) (Kd.R_far (p := ⟨gb513, 0, none⟩) (Kd.R_types HO_10.out BK513.out (by decide)) (fun _ hk => hk.2) (.int .i64 ((rd_T74 l3 x25_1).f0))) (fun _ hk => hk.2) (.int .i64 ((rd_T74 l3 x25_1).f1))) (fun _ hk => trivial)⟩, ⟨by (with_reducible repeat (first | refine blk_drewN ?_ _ | refine blk_drew ?_ | refine blk_alloc ?_ _)); refine blk_put (cs := #[.int .i64 ((rd_T74 l3 x25_1).f0), .int .i64 0]) ?_ 1 _ rfl; (with_reducible repeat (first | refine blk_drewN ?_ _ | refine blk_drew ?_ | refine blk_alloc ?_ _)); refine blk_put (cs := #[.int .i64 0, .int .i64 0]) ?_ 0 _ rfl; (with_reducible repeat (first | refine blk_drewN ?_ _ | refine blk_drew ?_ | refine blk_alloc ?_ _)); exact BK513.out⟩, ⟨by repeat (first | (with_reducible first | exact HB.out | apply below_alloc | apply pw_below_drewN | apply below_drew1 | refine below_set ?_ GE513.out) | exact HB.out)⟩⟩
                          · rw [if_neg c23] at H
                            exact absurd H (by simp)
                        · rw [if_neg c22] at H
                          exact absurd H (by simp)
                      · replace c21 := Bool.eq_false_iff.mpr c21
                        subst c21
                        have H1 : (impl_isCorrect.j1 k1 l0 a1 a2 x9_1 x10_1 l3 (l3.length : Int) x25_1 true ((rd_T74 l3 x25_1).f0) ((rd_T74 l3 x25_1).f1)) = some r := by rw [if_neg (show ¬ (false = true) by decide)] at H; exact H
                        clear H
                        have H := H1
                        clear H1
                        have H' := Aside0.mk H
                        clear H
                        have hcz26_0 : w16.cell? ⟨gb513, 0, none⟩ = some (.int .i64 0) := (blk_cell BK513.out 0).trans rfl
                        have hcz26_1 : w16.cell? ⟨gb513, 1, none⟩ = some (.int .i64 0) := (blk_cell BK513.out 1).trans rfl
                        have hfz26_0 := blk_frozen BK513.out 0
                        have hfz26_1 := blk_frozen BK513.out 1
                        go_wp2_with (first | ((with_reducible refine gate_callee (f := 53) rfl ?_); refine goesL_ (some 34) rfl rfl Try.func53 (by kernel_rfl) rfl #[.int .i64 ((rd_T74 l3 x25_1).f0), .int .i64 0, .int .i64 (wrap64 ((l0.length : Int) - 1))] rfl (by (try simp only [List.map_toArray, List.map_cons, List.map_nil]); first | done | rfl | (simp only [List.length_drop, List.length_take]; rfl)) ?_; (with_reducible refine (impl_within.calls ((rd_T74 l3 x25_1).f0) 0 (wrap64 ((l0.length : Int) - 1)) true _ A18.out).mono ?_); rintro e w' ⟨rfl, ⟨nd, rfl⟩⟩; refine ⟨_, rfl, ?_⟩) | (go_at_call 53; (with_reducible refine (impl_within.calls ((rd_T74 l3 x25_1).f1) 0 3 false _ A20.out).mono ?_); rintro e w' ⟨rfl, ⟨nd, rfl⟩⟩))
                        go_meet
                        case rel => exact ⟨_, (true), (by first | rfl | (simp; done) | (simp [*]; done)), H', ⟨by have := HK1.out; first | omega | exact Nat.le_refl _⟩, ⟨by (with_reducible repeat (first | apply Kd.R_alloc | apply Kd.R_drewN | apply Kd.R_drew)); exact Kd.R_mono (Kd.R_far (p := ⟨gb513, 1, none⟩) (Kd.R_far (p := ⟨gb513, 0, none⟩) (Kd.R_types HO_9.out BK513.out (by decide)) (fun _ hk => hk.2) (.int .i64 ((rd_T74 l3 x25_1).f0))) (fun _ hk => hk.2) (.int .i64 ((rd_T74 l3 x25_1).f1))) (fun _ hk => trivial)⟩, ⟨by (with_reducible repeat (first | apply Kd.R_alloc | apply Kd.R_drewN | apply Kd.R_drew)); exact Kd.R_mono (Kd.R_far (p := ⟨gb513, 1, none⟩) (Kd.R_far (p := ⟨gb513, 0, none⟩) (Kd.R_types HO_10.out BK513.out (by decide)) (fun _ hk => hk.2) (.int .i64 ((rd_T74 l3 x25_1).f0))) (fun _ hk => hk.2) (.int .i64 ((rd_T74 l3 x25_1).f1))) (fun _ hk => trivial)⟩, ⟨by (with_reducible repeat (first | refine blk_drewN ?_ _ | refine blk_drew ?_ | refine blk_alloc ?_ _)); refine blk_put (cs := #[.int .i64 ((rd_T74 l3 x25_1).f0), .int .i64 0]) ?_ 1 _ rfl; (with_reducible repeat (first | refine blk_drewN ?_ _ | refine blk_drew ?_ | refine blk_alloc ?_ _)); refine blk_put (cs := #[.int .i64 0, .int .i64 0]) ?_ 0 _ rfl; (with_reducible repeat (first | refine blk_drewN ?_ _ | refine blk_drew ?_ | refine blk_alloc ?_ _)); exact BK513.out⟩, ⟨by repeat (first | (with_reducible first | exact HB.out | apply below_alloc | apply pw_below_drewN | apply below_drew1 | refine below_set ?_ GE513.out) | exact HB.out)⟩⟩
                    · replace c19 := Bool.eq_false_iff.mpr c19
                      subst c19
                      have H1 : (impl_isCorrect.j1 k1 l0 a1 a2 x9_1 x10_1 l3 (l3.length : Int) x25_1 true ((rd_T74 l3 x25_1).f0) ((rd_T74 l3 x25_1).f1)) = some r := by rw [if_neg (show ¬ (false = true) by decide)] at H; exact H
                      clear H
                      have H := H1
                      clear H1
                      have H' := Aside0.mk H
                      clear H
                      have hcz27_0 : w16.cell? ⟨gb513, 0, none⟩ = some (.int .i64 0) := (blk_cell BK513.out 0).trans rfl
                      have hcz27_1 : w16.cell? ⟨gb513, 1, none⟩ = some (.int .i64 0) := (blk_cell BK513.out 1).trans rfl
                      have hfz27_0 := blk_frozen BK513.out 0
                      have hfz27_1 := blk_frozen BK513.out 1
                      go_wp2_with (first | ((with_reducible refine gate_callee (f := 53) rfl ?_); refine goesL_ (some 34) rfl rfl Try.func53 (by kernel_rfl) rfl #[.int .i64 ((rd_T74 l3 x25_1).f0), .int .i64 0, .int .i64 (wrap64 ((l0.length : Int) - 1))] rfl (by (try simp only [List.map_toArray, List.map_cons, List.map_nil]); first | done | rfl | (simp only [List.length_drop, List.length_take]; rfl)) ?_; (with_reducible refine (impl_within.calls ((rd_T74 l3 x25_1).f0) 0 (wrap64 ((l0.length : Int) - 1)) false _ A18.out).mono ?_); rintro e w' ⟨rfl, ⟨nd, rfl⟩⟩; refine ⟨_, rfl, ?_⟩))
                      go_meet
                      case rel => exact ⟨_, (true), (by first | rfl | (simp; done) | (simp [*]; done)), H', ⟨by have := HK1.out; first | omega | exact Nat.le_refl _⟩, ⟨by (with_reducible repeat (first | apply Kd.R_alloc | apply Kd.R_drewN | apply Kd.R_drew)); exact Kd.R_mono (Kd.R_far (p := ⟨gb513, 1, none⟩) (Kd.R_far (p := ⟨gb513, 0, none⟩) (Kd.R_types HO_9.out BK513.out (by decide)) (fun _ hk => hk.2) (.int .i64 ((rd_T74 l3 x25_1).f0))) (fun _ hk => hk.2) (.int .i64 ((rd_T74 l3 x25_1).f1))) (fun _ hk => trivial)⟩, ⟨by (with_reducible repeat (first | apply Kd.R_alloc | apply Kd.R_drewN | apply Kd.R_drew)); exact Kd.R_mono (Kd.R_far (p := ⟨gb513, 1, none⟩) (Kd.R_far (p := ⟨gb513, 0, none⟩) (Kd.R_types HO_10.out BK513.out (by decide)) (fun _ hk => hk.2) (.int .i64 ((rd_T74 l3 x25_1).f0))) (fun _ hk => hk.2) (.int .i64 ((rd_T74 l3 x25_1).f1))) (fun _ hk => trivial)⟩, ⟨by (with_reducible repeat (first | refine blk_drewN ?_ _ | refine blk_drew ?_ | refine blk_alloc ?_ _)); refine blk_put (cs := #[.int .i64 ((rd_T74 l3 x25_1).f0), .int .i64 0]) ?_ 1 _ rfl; (with_reducible repeat (first | refine blk_drewN ?_ _ | refine blk_drew ?_ | refine blk_alloc ?_ _)); refine blk_put (cs := #[.int .i64 0, .int .i64 0]) ?_ 0 _ rfl; (with_reducible repeat (first | refine blk_drewN ?_ _ | refine blk_drew ?_ | refine blk_alloc ?_ _)); exact BK513.out⟩, ⟨by repeat (first | (with_reducible first | exact HB.out | apply below_alloc | apply pw_below_drewN | apply below_drew1 | refine below_set ?_ GE513.out) | exact HB.out)⟩⟩
                  case rest =>
                    clear HC15
                    try clear c1
                    try clear c2
                    try clear p2
                    try clear c3
                    try clear c5
                    try clear c5b0
                    try clear c5b1
                    try clear c5b2
                    try clear p5
                    try clear q5
                    try clear hx5
                    try clear c6
                    try clear c6b0
                    try clear c6b1
                    try clear p6
                    try clear c7
                    try clear c7b0
                    try clear c7b1
                    try clear c12
                    try clear c12b0
                    try clear c13
                    try clear c13b0
                    try clear c14
                    try clear c14b0
                    try clear c19
                    try clear c21
                    try clear c22
                    try clear c22b0
                    try clear c23
                    try clear c23b0
                    try clear hcz17_0
                    try clear hcz17_1
                    try clear hcz24_0
                    try clear hcz24_1
                    try clear hcz26_0
                    try clear hcz26_1
                    try clear hcz27_0
                    try clear hcz27_1
                    try clear hfz17_0
                    try clear hfz17_1
                    try clear hfz24_0
                    try clear hfz24_1
                    try clear hfz26_0
                    try clear hfz26_1
                    try clear hfz27_0
                    try clear hfz27_1
                    try clear hx512_0
                    try clear hx512_1
                    try clear hx516_0
                    try clear p2
                    try clear p512
                    try clear p516
                    try clear q512
                    try clear q516
                    obtain ⟨kq, x48_14, rfl, HA, HJ14, HO_9, HO_10, BK513, HB⟩ := hcut
                    cases kq with
                    | zero => exact absurd HA.out (by simp [impl_isCorrect.j1])
                    | succ kj14 =>
                      have H := HA.out
                      clear HA
                      simp only [impl_isCorrect.j1] at H
                      by_cases c28 : x48_14 = true
                      · subst c28
                        have H1 : (some false) = some r := by rw [if_pos rfl] at H; exact H
                        clear H
                        have H := H1
                        clear H1
                        obtain rfl := Option.some.inj H
                        go_wp2
                        go_ret
                        exact ⟨by first | rfl | (simp [errW_none, errW_some] <;> rfl) | (simp [*, errW_none, errW_some] <;> rfl), by repeat (first | (with_reducible first | exact HB.out | apply below_alloc | apply pw_below_drewN | apply below_drew1 | refine below_set ?_ GE513.out) | exact HB.out)⟩
                      · replace c28 := Bool.eq_false_iff.mpr c28
                        subst c28
                        have H1 : (if 0 ≤ ((rd_T74 l3 x25_1).f0) then (if ((rd_T74 l3 x25_1).f0) < (x9_1.length : Int) then (if ((rd_T74 l3 x25_1).f0) < (l0.length : Int) then ((impl_turnTile.f kj14 ((rd_T24 l0 ((rd_T74 l3 x25_1).f0)).f0) ((rd_T24 l0 ((rd_T74 l3 x25_1).f0)).f1) ((rd_T24 l0 ((rd_T74 l3 x25_1).f0)).f2) ((rd_T24 l0 ((rd_T74 l3 x25_1).f0)).f3) ((rd_T74 l3 x25_1).f1)).bind fun bt519 => ((impl_fits.f kj14 bt519.1 bt519.2.1 bt519.2.2.1 bt519.2.2.2 x10_1 a1 a2).bind fun t524 => (if t524 = true then (if x10_1.length < 4398046511104 then (impl_isCorrect.l0 kj14 l0 a1 a2 (x9_1.set (((rd_T74 l3 x25_1).f0) : Int).toNat true) (x10_1 ++ [(⟨bt519.1, bt519.2.1, bt519.2.2.1, bt519.2.2.2⟩ : S24)]) l3 (l3.length : Int) (wrap64 (x25_1 + 1))) else (none)) else (some false)))) else (none)) else (none)) else (none)) = some r := by rw [if_neg (show ¬ (false = true) by decide)] at H; exact H
                        clear H
                        have H := H1
                        clear H1
                        by_cases c29 : 0 ≤ ((rd_T74 l3 x25_1).f0)
                        · rw [if_pos c29] at H
                          have c29b0 : decide (0 ≤ ((rd_T74 l3 x25_1).f0)) = true := decide_eq_true c29
                          clear c29
                          by_cases c30 : ((rd_T74 l3 x25_1).f0) < (x9_1.length : Int)
                          · rw [if_pos c30] at H
                            have c30b0 : decide (((rd_T74 l3 x25_1).f0) < (x9_1.length : Int)) = true := decide_eq_true c30
                            clear c30
                            obtain ⟨y517, hy517⟩ : ∃ y_ : List Bool, y_ = (x9_1.set (((rd_T74 l3 x25_1).f0) : Int).toNat true) := ⟨_, rfl⟩
                            replace H : (if ((rd_T74 l3 x25_1).f0) < (l0.length : Int) then ((impl_turnTile.f kj14 ((rd_T24 l0 ((rd_T74 l3 x25_1).f0)).f0) ((rd_T24 l0 ((rd_T74 l3 x25_1).f0)).f1) ((rd_T24 l0 ((rd_T74 l3 x25_1).f0)).f2) ((rd_T24 l0 ((rd_T74 l3 x25_1).f0)).f3) ((rd_T74 l3 x25_1).f1)).bind fun bt519 => ((impl_fits.f kj14 bt519.1 bt519.2.1 bt519.2.2.1 bt519.2.2.2 x10_1 a1 a2).bind fun t524 => (if t524 = true then (if x10_1.length < 4398046511104 then (impl_isCorrect.l0 kj14 l0 a1 a2 y517 (x10_1 ++ [(⟨bt519.1, bt519.2.1, bt519.2.2.1, bt519.2.2.2⟩ : S24)]) l3 (l3.length : Int) (wrap64 (x25_1 + 1))) else (none)) else (some false)))) else (none)) = some r := by first | (rw [hy517]; with_reducible exact H) | (have H2_ := (Option.bind_some _ _).symm.trans H; rw [hy517]; with_reducible exact H2_) | (have H2_ := (Option.bind_some _ _).symm.trans H; with_reducible exact H2_) | with_reducible exact H | (rw [hy517]; exact H) | exact H
                            have Ny517 := Aside0.mk hy517
                            clear hy517
                            by_cases c32 : ((rd_T74 l3 x25_1).f0) < (l0.length : Int)
                            · rw [if_pos c32] at H
                              have c32b0 : decide (((rd_T74 l3 x25_1).f0) < (l0.length : Int)) = true := decide_eq_true c32
                              clear c32
                              replace H := Option.bind_eq_some_iff.mp H
                              obtain ⟨⟨t519, t520, t521, t522⟩, A330, H⟩ := H
                              replace H : ((impl_fits.f kj14 t519 t520 t521 t522 x10_1 a1 a2).bind fun t524 => (if t524 = true then (if x10_1.length < 4398046511104 then (impl_isCorrect.l0 kj14 l0 a1 a2 y517 (x10_1 ++ [(⟨t519, t520, t521, t522⟩ : S24)]) l3 (l3.length : Int) (wrap64 (x25_1 + 1))) else (none)) else (some false))) = some r := H
                              have A33 := Aside0.mk A330
                              clear A330
                              replace H := Option.bind_eq_some_iff.mp H
                              obtain ⟨t524, A340, H⟩ := H
                              replace H : (if t524 = true then (if x10_1.length < 4398046511104 then (impl_isCorrect.l0 kj14 l0 a1 a2 y517 (x10_1 ++ [(⟨t519, t520, t521, t522⟩ : S24)]) l3 (l3.length : Int) (wrap64 (x25_1 + 1))) else (none)) else (some false)) = some r := H
                              have A34 := Aside0.mk A340
                              clear A340
                              by_cases c35 : t524 = true
                              · subst c35
                                have H1 : (if x10_1.length < 4398046511104 then (impl_isCorrect.l0 kj14 l0 a1 a2 y517 (x10_1 ++ [(⟨t519, t520, t521, t522⟩ : S24)]) l3 (l3.length : Int) (wrap64 (x25_1 + 1))) else (none)) = some r := by rw [if_pos rfl] at H; exact H
                                clear H
                                have H := H1
                                clear H1
                                by_cases c36 : x10_1.length < 4398046511104
                                · rw [if_pos c36] at H
                                  have LMc36 := Aside0.mk c36
                                  clear c36
                                  obtain ⟨y525, hy525⟩ : ∃ y_ : List (S24), y_ = (x10_1 ++ [(⟨t519, t520, t521, t522⟩ : S24)]) := ⟨_, rfl⟩
                                  replace H : (impl_isCorrect.l0 kj14 l0 a1 a2 y517 y525 l3 (l3.length : Int) (wrap64 (x25_1 + 1))) = some r := by first | (rw [hy525]; with_reducible exact H) | (have H2_ := (Option.bind_some _ _).symm.trans H; rw [hy525]; with_reducible exact H2_) | (have H2_ := (Option.bind_some _ _).symm.trans H; with_reducible exact H2_) | with_reducible exact H | (rw [hy525]; exact H) | exact H
                                  have Ny525 := Aside0.mk hy525
                                  clear hy525
                                  have H' := Aside0.mk H
                                  clear H
                                  have hcz37_0 : wc.cell? ⟨gb513, 0, none⟩ = some (.int .i64 ((rd_T74 l3 x25_1).f0)) := (blk_cell BK513.out 0).trans rfl
                                  have hcz37_1 : wc.cell? ⟨gb513, 1, none⟩ = some (.int .i64 ((rd_T74 l3 x25_1).f1)) := (blk_cell BK513.out 1).trans rfl
                                  have hfz37_0 := blk_frozen BK513.out 0
                                  have hfz37_1 := blk_frozen BK513.out 1
                                  have p31 : 0 ≤ (((rd_T74 l3 x25_1).f0) : Int) := of_decide_eq_true (by first | (with_reducible assumption) | assumption)
                                  have q31 : (((rd_T74 l3 x25_1).f0) : Int) < ((x9_1.length : Int) : Int) := of_decide_eq_true (by first | (with_reducible assumption) | assumption)
                                  obtain ⟨go31, co31, eo31, gb31, gl31, cl31, HG31⟩ := Kd.R_form HO_9.out (by omega)
                                  (first | cases eo31 | (injection eo31 with ea_ en_ ec_; (first | subst ea_ | (injection ea_ with ea_; subst ea_)); subst ec_; clear en_))
                                  have GB31 := Aside0.mk gb31
                                  have GG31 := Aside0.mk HG31
                                  clear gb31 gl31 HG31
                                  obtain ⟨hx31_0, hf31_0⟩ := Kd.R_celln false HO_9.out (((rd_T74 l3 x25_1).f0) : Int) p31 q31
                                  replace p31 := eq_true p31
                                  replace q31 := eq_true q31
                                  have HP38 := Kd.R_putg HO_9.out (((rd_T74 l3 x25_1).f0) : Int) true
                                  try go_wp2_with (first | ((with_reducible refine gate_store (t := 4) (p := 52) rfl ?_); refine store_event (t := 4) (p := 52) (v := ?vo_w39) (w1 := (wc.setCell ⟨go31, (((rd_T74 l3 x25_1).f0) : Int).toNat, none⟩ (.bool true))) ?hg ?ho ?hn ?hr ?_; (case ho => rfl); (case hg => rfl); (case hn => rfl); (case hr => first | (go_simp; done) | (go_simp; rfl)); intro w39 hw; have hg : wc.grownBy w39 (some go31) := (by rw [hw]; exact HP38.2); have hp_ : Kd.R Kd.bool 4 w39 w.heap.size (fun _ => True) (.slice (some ⟨go31, 0, none⟩) x9_1.length co31) y517 := (by rw [hw, Ny517.out]; exact HP38.1); clear HP38; have n0_ := Aside0.mk (hp_); have n1_ := Aside0.mk (Kd.R_over' (v := (.slice (some ⟨go31, 0, none⟩) x9_1.length co31)) (by (with_reducible repeat (first | apply Kd.R_alloc | apply Kd.R_drewN | apply Kd.R_drew)); exact HO_10.out) (Kd.R_typed HO_9.out) (by decide) hg); have n2_ := Aside0.mk (blk_grown (g := gb513) (o := .cells #[.int .i64 ((rd_T74 l3 x25_1).f0), .int .i64 ((rd_T74 l3 x25_1).f1)] 74 (0, 0)) (by (with_reducible repeat (first | refine blk_drewN ?_ _ | refine blk_drew ?_ | refine blk_alloc ?_ _)); exact BK513.out) hg (Kd.R_ne HO_9.out BK513.out (by decide))); have n3_ := Aside0.mk ((by rw [hw]; exact below_set (HB.out) GB31.out : Below w.heap.size w w39)); clear HO_9; clear HO_10; clear BK513; clear HB; have HO_9 := n0_; have HO_10 := n1_; have BK513 := n2_; have HB := n3_; clear n0_ n1_ n2_ n3_; clear hg hw hp_))
                                  have n0_ := Aside0.mk (Kd.R_drew HO_9.out)
                                  have n1_ := Aside0.mk (Kd.R_drew HO_10.out)
                                  have n2_ := Aside0.mk (blk_drew BK513.out)
                                  have n3_ := Aside0.mk (below_drew1 HB.out)
                                  clear HO_9
                                  clear HO_10
                                  clear BK513
                                  clear HB
                                  have HO_9 := n0_
                                  have HO_10 := n1_
                                  have BK513 := n2_
                                  have HB := n3_
                                  clear n0_ n1_ n2_ n3_
                                  have p518 : 0 ≤ (((rd_T74 l3 x25_1).f0) : Int) := of_decide_eq_true (by first | (with_reducible assumption) | assumption)
                                  have q518 : ((rd_T74 l3 x25_1).f0) < (l0.length : Int) := of_decide_eq_true (by first | (with_reducible assumption) | assumption)
                                  obtain ⟨ad518, e518, hx518_0, hx518_1, hx518_2, hx518_3⟩ := at_T24 HR0.out ((rd_T74 l3 x25_1).f0) p518 q518
                                  have hw518_3 := hx518_3
                                  have hw518_2 := hx518_2
                                  have hw518_1 := hx518_1
                                  have hw518_0 := hx518_0
                                  cases e518
                                  replace hx518_0 := (HB.out.cell (World.block_lt_of_cell? w _ hx518_0)).trans hx518_0
                                  replace hx518_1 := (HB.out.cell (World.block_lt_of_cell? w _ hx518_1)).trans hx518_1
                                  replace hx518_2 := (HB.out.cell (World.block_lt_of_cell? w _ hx518_2)).trans hx518_2
                                  replace hx518_3 := (HB.out.cell (World.block_lt_of_cell? w _ hx518_3)).trans hx518_3
                                  replace p518 := eq_true p518
                                  replace q518 := eq_true q518
                                  refine start_ (n := 10) (S := fun w' => w'.cell? ⟨gb513, 0, none⟩ = some (.int .i64 ((rd_T74 l3 x25_1).f0)) ∧ w'.cell? ⟨gb513, 1, none⟩ = some (.int .i64 ((rd_T74 l3 x25_1).f1)) ∧ w'.cell? (ad518.add ((((rd_T74 l3 x25_1).f0)).toNat * 4)) = some (.int .i64 ((rd_T24 l0 ((rd_T74 l3 x25_1).f0)).f0)) ∧ w'.cell? ⟨(ad518.add ((((rd_T74 l3 x25_1).f0)).toNat * 4)).block, (ad518.add ((((rd_T74 l3 x25_1).f0)).toNat * 4)).off + 1, none⟩ = some (.int .i64 ((rd_T24 l0 ((rd_T74 l3 x25_1).f0)).f1)) ∧ w'.cell? ⟨(ad518.add ((((rd_T74 l3 x25_1).f0)).toNat * 4)).block, (ad518.add ((((rd_T74 l3 x25_1).f0)).toNat * 4)).off + 2, none⟩ = some (.int .i64 ((rd_T24 l0 ((rd_T74 l3 x25_1).f0)).f2)) ∧ w'.cell? ⟨(ad518.add ((((rd_T74 l3 x25_1).f0)).toNat * 4)).block, (ad518.add ((((rd_T74 l3 x25_1).f0)).toNat * 4)).off + 3, none⟩ = some (.int .i64 ((rd_T24 l0 ((rd_T74 l3 x25_1).f0)).f3))) (ds := []) #[false, false, false, false, false, false, false, false, false, false] (by kernel_rfl) rfl rfl ⟨(blk_cell BK513.out 0).trans rfl, (blk_cell BK513.out 1).trans rfl, ((HB.out.cell (World.block_lt_of_cell? w _ hw518_0)).trans hw518_0), ((HB.out.cell (World.block_lt_of_cell? w _ hw518_1)).trans hw518_1), ((HB.out.cell (World.block_lt_of_cell? w _ hw518_2)).trans hw518_2), ((HB.out.cell (World.block_lt_of_cell? w _ hw518_3)).trans hw518_3)⟩ (fun hHeld => ?_); refine with_tabW impl_isCorrect.tab11 impl_isCorrect.bits11 (fun HT_ HW_ => ?_)
                                  generalize w39.drew = w40 at HO_9 HO_10 BK513 HB hx518_0 hx518_1 hx518_2 hx518_3 hHeld ⊢
                                  refine pure_ (i := 0) (N := some 53) (v := ?_) (a' := ?_) #[true, false, false, false, false, false, false, false, false, false] rfl rfl (any_of HT_.out (by kernel_rfl)) (fun _ _ _ h => h) (Or.inl ⟨by rfl, ?_⟩) ?_ ?_
                                  rotate_left
                                  · intro w'
                                    go_simp
                                    with_reducible rfl
                                  rotate_left
                                  · simp only [Act.put, List.setIfInBounds_toArray, List.set_cons_zero, List.set_cons_succ, i64_w, i32_w]
                                    rfl
                                  refine pure_ (i := 1) (N := some 54) (v := ?_) (a' := ?_) #[true, true, false, false, false, false, false, false, false, false] rfl rfl (any_of HT_.out (by kernel_rfl)) (fun _ _ _ h => h) (Or.inl ⟨by rfl, ?_⟩) ?_ ?_
                                  rotate_left
                                  · intro w'
                                    go_simp
                                    with_reducible rfl
                                  rotate_left
                                  · simp only [Act.put, List.setIfInBounds_toArray, List.set_cons_zero, List.set_cons_succ, i64_w, i32_w]
                                    rfl
                                  refine pure_ (i := 5) (N := some 58) (v := ?_) (a' := ?_) #[true, true, false, false, false, true, false, false, false, false] rfl rfl (any_of HT_.out (by kernel_rfl)) (fun _ _ _ h => h) (Or.inl ⟨by rfl, ?_⟩) ?_ ?_
                                  rotate_left
                                  · intro w'
                                    go_simp
                                    with_reducible rfl
                                  rotate_left
                                  · simp only [Act.put, List.setIfInBounds_toArray, List.set_cons_zero, List.set_cons_succ, i64_w, i32_w]
                                    rfl
                                  refine take_ (i := 2) (N := some 55) (v := ?_) (a' := ?_) #[true, true, true, false, false, true, false, false, false, false] rfl rfl (take_ofW HT_.out HW_.out (by kernel_rfl)) (fun _ _ _ h => h) (Or.inl ⟨by rfl, ?_⟩) hHeld ?_ ?_
                                  rotate_left
                                  · rintro w' ⟨s0, s1, s2, s3, s4, s5⟩
                                    go_simp
                                    with_reducible rfl
                                  rotate_left
                                  · simp only [Act.put, List.setIfInBounds_toArray, List.set_cons_zero, List.set_cons_succ, i64_w, i32_w]
                                    rfl
                                  refine pure_ (i := 3) (N := some 56) (v := ?_) (a' := ?_) #[true, true, true, true, false, true, false, false, false, false] rfl rfl (any_of HT_.out (by kernel_rfl)) (fun _ _ _ h => h) (Or.inl ⟨by rfl, ?_⟩) ?_ ?_
                                  rotate_left
                                  · intro w'
                                    go_simp
                                    with_reducible rfl
                                  rotate_left
                                  · simp only [Act.put, List.setIfInBounds_toArray, List.set_cons_zero, List.set_cons_succ, i64_w, i32_w]
                                    rfl
                                  refine take_ (i := 4) (N := some 57) (v := ?_) (a' := ?_) #[true, true, true, true, true, true, false, false, false, false] rfl rfl (take_ofW HT_.out HW_.out (by kernel_rfl)) (fun _ _ _ h => h) (Or.inl ⟨by rfl, ?_⟩) hHeld ?_ ?_
                                  rotate_left
                                  · rintro w' ⟨s0, s1, s2, s3, s4, s5⟩
                                    go_simp
                                    with_reducible rfl
                                  rotate_left
                                  · simp only [Act.put, List.setIfInBounds_toArray, List.set_cons_zero, List.set_cons_succ, i64_w, i32_w]
                                    rfl
                                  refine take_ (i := 6) (N := some 59) (v := ?_) (a' := ?_) #[true, true, true, true, true, true, true, false, false, false] rfl rfl (take_ofW HT_.out HW_.out (by kernel_rfl)) (fun _ _ _ h => h) (Or.inl ⟨by rfl, ?_⟩) hHeld ?_ ?_
                                  rotate_left
                                  · rintro w' ⟨s0, s1, s2, s3, s4, s5⟩
                                    go_simp
                                    with_reducible rfl
                                  rotate_left
                                  · simp only [Act.put, List.setIfInBounds_toArray, List.set_cons_zero, List.set_cons_succ, i64_w, i32_w]
                                    rfl
                                  refine join_ (σ := Nat) 1 #[true, true, true, true, true, true, true, true, true, false] (fun s_ => [(60, .agg #[.int .i64 t519, .int .i64 t520, .int .i64 t521, .int .i64 t522]), (13, .pointer (some ⟨s_, 0, none⟩))]) (fun s_ w' => (w'.cell? ⟨gb513, 0, none⟩ = some (.int .i64 ((rd_T74 l3 x25_1).f0)) ∧ w'.cell? ⟨gb513, 1, none⟩ = some (.int .i64 ((rd_T74 l3 x25_1).f1)) ∧ w'.cell? (ad518.add ((((rd_T74 l3 x25_1).f0)).toNat * 4)) = some (.int .i64 ((rd_T24 l0 ((rd_T74 l3 x25_1).f0)).f0)) ∧ w'.cell? ⟨(ad518.add ((((rd_T74 l3 x25_1).f0)).toNat * 4)).block, (ad518.add ((((rd_T74 l3 x25_1).f0)).toNat * 4)).off + 1, none⟩ = some (.int .i64 ((rd_T24 l0 ((rd_T74 l3 x25_1).f0)).f1)) ∧ w'.cell? ⟨(ad518.add ((((rd_T74 l3 x25_1).f0)).toNat * 4)).block, (ad518.add ((((rd_T74 l3 x25_1).f0)).toNat * 4)).off + 2, none⟩ = some (.int .i64 ((rd_T24 l0 ((rd_T74 l3 x25_1).f0)).f2)) ∧ w'.cell? ⟨(ad518.add ((((rd_T74 l3 x25_1).f0)).toNat * 4)).block, (ad518.add ((((rd_T74 l3 x25_1).f0)).toNat * 4)).off + 3, none⟩ = some (.int .i64 ((rd_T24 l0 ((rd_T74 l3 x25_1).f0)).f3))) ∧ (Kd.R k24 24 w' w.heap.size (fun k_ => k_ ≠ s_) u10 x10_1) ∧ (Kd.R Kd.bool 4 w' w.heap.size (fun _ => True) (.slice (some ⟨go31, 0, none⟩) x9_1.length co31) y517) ∧ (w'.heap[gb513]? = some (.cells #[.int .i64 ((rd_T74 l3 x25_1).f0), .int .i64 ((rd_T74 l3 x25_1).f1)] 74 (0, 0))) ∧ (w'.heap[s_]? = some (.cells #[.int .i64 0, .int .i64 0, .int .i64 0, .int .i64 0] 24 (0, 0))) ∧ (w.heap.size ≤ s_) ∧ (w.heap.size ≤ s_) ∧ (gb513 ≠ s_) ∧ (s_ ≠ gb513) ∧ (Below w.heap.size w w')) ?_ ?_
                                  rotate_left
                                  · intro hCont
                                    refine two_ (i := 7) (j := 8) (Ni := some 60) (Nj := some 13) #[true, true, true, true, true, true, true, true, false, false] #[true, true, true, true, true, true, true, false, true, false] rfl rfl rfl rfl (two_of HT_.out (by kernel_rfl)) (by decide) (by decide) (fun K hK => ?_) (fun K hK => ?_)
                                    · skip
                                      refine goes_ Try.func54 (by kernel_rfl) rfl #[.agg #[.int .i64 ((rd_T24 l0 ((rd_T74 l3 x25_1).f0)).f0), .int .i64 ((rd_T24 l0 ((rd_T74 l3 x25_1).f0)).f1), .int .i64 ((rd_T24 l0 ((rd_T74 l3 x25_1).f0)).f2), .int .i64 ((rd_T24 l0 ((rd_T74 l3 x25_1).f0)).f3)], .int .i64 ((rd_T74 l3 x25_1).f1)] (by rfl) rfl rfl (by (try simp only [List.map_toArray, List.map_cons, List.map_nil]); first | done | rfl | (simp only [List.length_drop, List.length_take]; rfl)) ?_
                                      with_reducible refine (impl_turnTile.calls kj14 ((rd_T24 l0 ((rd_T74 l3 x25_1).f0)).f0) ((rd_T24 l0 ((rd_T74 l3 x25_1).f0)).f1) ((rd_T24 l0 ((rd_T74 l3 x25_1).f0)).f2) ((rd_T24 l0 ((rd_T74 l3 x25_1).f0)).f3) ((rd_T74 l3 x25_1).f1) t519 t520 t521 t522 _ A33.out).mono ?_
                                      rintro e w41 ⟨rfl, hb⟩
                                      refine ⟨_, rfl, ?_⟩
                                      have n0_ := Aside0.mk (Kd.R_below (by (with_reducible repeat (first | apply Kd.R_alloc | apply Kd.R_drewN | apply Kd.R_drew)); exact HO_9.out) hb)
                                      have n1_ := Aside0.mk (Kd.R_below (by (with_reducible repeat (first | apply Kd.R_alloc | apply Kd.R_drewN | apply Kd.R_drew)); exact HO_10.out) hb)
                                      have n2_ := Aside0.mk (blk_below (g := gb513) (o := .cells #[.int .i64 ((rd_T74 l3 x25_1).f0), .int .i64 ((rd_T74 l3 x25_1).f1)] 74 (0, 0)) (by (with_reducible repeat (first | refine blk_drewN ?_ _ | refine blk_drew ?_ | refine blk_alloc ?_ _)); exact BK513.out) hb)
                                      have n3_ := Aside0.mk (below_step (by repeat (first | (with_reducible first | exact HB.out | apply below_alloc | apply pw_below_drewN | apply below_drew1 | refine below_set ?_ GE513.out) | exact HB.out)) hb)
                                      clear HO_9
                                      clear HO_10
                                      clear BK513
                                      clear HB
                                      have HO_9 := n0_
                                      have HO_10 := n1_
                                      have BK513 := n2_
                                      have HB := n3_
                                      clear n0_ n1_ n2_ n3_
                                      (try clear hb)
                                      (try clear hb2)
                                      (try clear hk)
                                      (try clear hi)
                                      refine hK.out _ _ ⟨(blk_cell BK513.out 0).trans rfl, (blk_cell BK513.out 1).trans rfl, ((HB.out.cell (World.block_lt_of_cell? w _ hw518_0)).trans hw518_0), ((HB.out.cell (World.block_lt_of_cell? w _ hw518_1)).trans hw518_1), ((HB.out.cell (World.block_lt_of_cell? w _ hw518_2)).trans hw518_2), ((HB.out.cell (World.block_lt_of_cell? w _ hw518_3)).trans hw518_3)⟩ (fun hHeld => ?_)
                                      clear hK K
                                      refine norm_ (a' := ?_) ?_ ?_
                                      rotate_left
                                      · show Act.put _ (some 60) _ = _
                                        simp only [Act.put, List.setIfInBounds_toArray, List.set_cons_zero, List.set_cons_succ, i64_w, i32_w]
                                        rfl
                                      refine one_ (i := 8) (N := some 13) #[true, true, true, true, true, true, true, true, true, false] rfl rfl (one_of HT_.out (by kernel_rfl)) (by decide) (fun K hK => ?_)
                                      refine box_step ?hg (N := 13) ?hd (cs := #[.int .i64 0, .int .i64 0, .int .i64 0, .int .i64 0]) (t := 24) ?hr ?_; (case hd => rfl); (case hg => rfl); (case hr => first | (go_simp; done) | (go_simp; rfl))
                                      intro gb523 hg w42 hbox hb
                                      have n0_ := Aside0.mk (Kd.R_below (by (with_reducible repeat (first | apply Kd.R_alloc | apply Kd.R_drewN | apply Kd.R_drew)); exact HO_9.out) hb)
                                      have n1_ := Aside0.mk (Kd.R_below (Kd.R_elderB (by (with_reducible repeat (first | apply Kd.R_alloc | apply Kd.R_drewN | apply Kd.R_drew)); exact HO_10.out) gb523 (Nat.le_of_eq hg.symm)) hb)
                                      have n2_ := Aside0.mk (blk_below (g := gb513) (o := .cells #[.int .i64 ((rd_T74 l3 x25_1).f0), .int .i64 ((rd_T74 l3 x25_1).f1)] 74 (0, 0)) (by (with_reducible repeat (first | refine blk_drewN ?_ _ | refine blk_drew ?_ | refine blk_alloc ?_ _)); exact BK513.out) hb)
                                      have n3_ := Aside0.mk (below_step (by repeat (first | (with_reducible first | exact HB.out | apply below_alloc | apply pw_below_drewN | apply below_drew1 | refine below_set ?_ GE513.out) | exact HB.out)) hb)
                                      have n4_ := Aside0.mk (hbox)
                                      have n5_ := Aside0.mk ((by rw [hg]; exact (below_size (by repeat (first | (with_reducible first | exact HB.out | apply below_alloc | apply pw_below_drewN | apply below_drew1 | refine below_set ?_ GE513.out) | exact HB.out))) : w.heap.size ≤ gb523))
                                      have n6_ := Aside0.mk ((by rw [hg]; exact (below_size (by repeat (first | (with_reducible first | exact HB.out | apply below_alloc | apply pw_below_drewN | apply below_drew1 | refine below_set ?_ GE513.out) | exact HB.out))) : w.heap.size ≤ gb523))
                                      have n7_ := Aside0.mk ((by rw [hg]; exact Nat.ne_of_lt (blk_lt (g := gb513) (o := .cells #[.int .i64 ((rd_T74 l3 x25_1).f0), .int .i64 ((rd_T74 l3 x25_1).f1)] 74 (0, 0)) (by (with_reducible repeat (first | refine blk_drewN ?_ _ | refine blk_drew ?_ | refine blk_alloc ?_ _)); exact BK513.out)) : gb513 ≠ gb523))
                                      have n8_ := Aside0.mk ((by rw [hg]; exact Nat.ne_of_gt (blk_lt (g := gb513) (o := .cells #[.int .i64 ((rd_T74 l3 x25_1).f0), .int .i64 ((rd_T74 l3 x25_1).f1)] 74 (0, 0)) (by (with_reducible repeat (first | refine blk_drewN ?_ _ | refine blk_drew ?_ | refine blk_alloc ?_ _)); exact BK513.out)) : gb523 ≠ gb513))
                                      clear HO_9
                                      clear HO_10
                                      clear BK513
                                      clear HB
                                      have HO_9 := n0_
                                      have HO_10 := n1_
                                      have BK513 := n2_
                                      have HB := n3_
                                      have BK523 := n4_
                                      have GW523 := n5_
                                      have GE523 := n6_
                                      have NB513_523 := n7_
                                      have NB523_513 := n8_
                                      clear n0_ n1_ n2_ n3_ n4_ n5_ n6_ n7_ n8_
                                      clear hb hbox hg
                                      refine hK.out _ _ ⟨(blk_cell BK513.out 0).trans rfl, (blk_cell BK513.out 1).trans rfl, ((HB.out.cell (World.block_lt_of_cell? w _ hw518_0)).trans hw518_0), ((HB.out.cell (World.block_lt_of_cell? w _ hw518_1)).trans hw518_1), ((HB.out.cell (World.block_lt_of_cell? w _ hw518_2)).trans hw518_2), ((HB.out.cell (World.block_lt_of_cell? w _ hw518_3)).trans hw518_3)⟩ (fun hHeld => ?_)
                                      clear hK K
                                      refine norm_ (a' := ?_) ?_ ?_
                                      rotate_left
                                      · show Act.put _ (some 13) _ = _
                                        simp only [Act.put, List.setIfInBounds_toArray, List.set_cons_zero, List.set_cons_succ, i64_w, i32_w]
                                        rfl
                                      exact norm_ (by simp only [putAll, Act.put, List.setIfInBounds_toArray, List.set_cons_zero, List.set_cons_succ]) (hCont (gb523) _ ⟨hHeld, (by (with_reducible repeat (first | apply Kd.R_alloc | apply Kd.R_drewN | apply Kd.R_drew)); exact Kd.R_mono HO_10.out (fun _ hk => hk.2)), (by (with_reducible repeat (first | apply Kd.R_alloc | apply Kd.R_drewN | apply Kd.R_drew)); exact HO_9.out), (by (with_reducible repeat (first | refine blk_drewN ?_ _ | refine blk_drew ?_ | refine blk_alloc ?_ _)); exact BK513.out), (by (with_reducible repeat (first | refine blk_drewN ?_ _ | refine blk_drew ?_ | refine blk_alloc ?_ _)); exact BK523.out), GW523.out, GE523.out, NB513_523.out, NB523_513.out, (by repeat (first | (with_reducible first | exact HB.out | apply below_alloc | apply pw_below_drewN | apply below_drew1 | refine below_set ?_ GE513.out | refine below_set ?_ GE523.out) | exact HB.out))⟩)
                                    · skip
                                      refine box_step ?hg (N := 13) ?hd (cs := #[.int .i64 0, .int .i64 0, .int .i64 0, .int .i64 0]) (t := 24) ?hr ?_; (case hd => rfl); (case hg => rfl); (case hr => first | (go_simp; done) | (go_simp; rfl))
                                      intro gb523 hg w41 hbox hb
                                      have n0_ := Aside0.mk (Kd.R_below (by (with_reducible repeat (first | apply Kd.R_alloc | apply Kd.R_drewN | apply Kd.R_drew)); exact HO_9.out) hb)
                                      have n1_ := Aside0.mk (Kd.R_below (Kd.R_elderB (by (with_reducible repeat (first | apply Kd.R_alloc | apply Kd.R_drewN | apply Kd.R_drew)); exact HO_10.out) gb523 (Nat.le_of_eq hg.symm)) hb)
                                      have n2_ := Aside0.mk (blk_below (g := gb513) (o := .cells #[.int .i64 ((rd_T74 l3 x25_1).f0), .int .i64 ((rd_T74 l3 x25_1).f1)] 74 (0, 0)) (by (with_reducible repeat (first | refine blk_drewN ?_ _ | refine blk_drew ?_ | refine blk_alloc ?_ _)); exact BK513.out) hb)
                                      have n3_ := Aside0.mk (below_step (by repeat (first | (with_reducible first | exact HB.out | apply below_alloc | apply pw_below_drewN | apply below_drew1 | refine below_set ?_ GE513.out) | exact HB.out)) hb)
                                      have n4_ := Aside0.mk (hbox)
                                      have n5_ := Aside0.mk ((by rw [hg]; exact (below_size (by repeat (first | (with_reducible first | exact HB.out | apply below_alloc | apply pw_below_drewN | apply below_drew1 | refine below_set ?_ GE513.out) | exact HB.out))) : w.heap.size ≤ gb523))
                                      have n6_ := Aside0.mk ((by rw [hg]; exact (below_size (by repeat (first | (with_reducible first | exact HB.out | apply below_alloc | apply pw_below_drewN | apply below_drew1 | refine below_set ?_ GE513.out) | exact HB.out))) : w.heap.size ≤ gb523))
                                      have n7_ := Aside0.mk ((by rw [hg]; exact Nat.ne_of_lt (blk_lt (g := gb513) (o := .cells #[.int .i64 ((rd_T74 l3 x25_1).f0), .int .i64 ((rd_T74 l3 x25_1).f1)] 74 (0, 0)) (by (with_reducible repeat (first | refine blk_drewN ?_ _ | refine blk_drew ?_ | refine blk_alloc ?_ _)); exact BK513.out)) : gb513 ≠ gb523))
                                      have n8_ := Aside0.mk ((by rw [hg]; exact Nat.ne_of_gt (blk_lt (g := gb513) (o := .cells #[.int .i64 ((rd_T74 l3 x25_1).f0), .int .i64 ((rd_T74 l3 x25_1).f1)] 74 (0, 0)) (by (with_reducible repeat (first | refine blk_drewN ?_ _ | refine blk_drew ?_ | refine blk_alloc ?_ _)); exact BK513.out)) : gb523 ≠ gb513))
                                      clear HO_9
                                      clear HO_10
                                      clear BK513
                                      clear HB
                                      have HO_9 := n0_
                                      have HO_10 := n1_
                                      have BK513 := n2_
                                      have HB := n3_
                                      have BK523 := n4_
                                      have GW523 := n5_
                                      have GE523 := n6_
                                      have NB513_523 := n7_
                                      have NB523_513 := n8_
                                      clear n0_ n1_ n2_ n3_ n4_ n5_ n6_ n7_ n8_
                                      clear hb hbox hg
                                      refine hK.out _ _ ⟨(blk_cell BK513.out 0).trans rfl, (blk_cell BK513.out 1).trans rfl, ((HB.out.cell (World.block_lt_of_cell? w _ hw518_0)).trans hw518_0), ((HB.out.cell (World.block_lt_of_cell? w _ hw518_1)).trans hw518_1), ((HB.out.cell (World.block_lt_of_cell? w _ hw518_2)).trans hw518_2), ((HB.out.cell (World.block_lt_of_cell? w _ hw518_3)).trans hw518_3)⟩ (fun hHeld => ?_)
                                      clear hK K
                                      refine norm_ (a' := ?_) ?_ ?_
                                      rotate_left
                                      · show Act.put _ (some 13) _ = _
                                        simp only [Act.put, List.setIfInBounds_toArray, List.set_cons_zero, List.set_cons_succ, i64_w, i32_w]
                                        rfl
                                      refine one_ (i := 7) (N := some 60) #[true, true, true, true, true, true, true, true, true, false] rfl rfl (one_of HT_.out (by kernel_rfl)) (by decide) (fun K hK => ?_)
                                      refine goes_ Try.func54 (by kernel_rfl) rfl #[.agg #[.int .i64 ((rd_T24 l0 ((rd_T74 l3 x25_1).f0)).f0), .int .i64 ((rd_T24 l0 ((rd_T74 l3 x25_1).f0)).f1), .int .i64 ((rd_T24 l0 ((rd_T74 l3 x25_1).f0)).f2), .int .i64 ((rd_T24 l0 ((rd_T74 l3 x25_1).f0)).f3)], .int .i64 ((rd_T74 l3 x25_1).f1)] (by rfl) rfl rfl (by (try simp only [List.map_toArray, List.map_cons, List.map_nil]); first | done | rfl | (simp only [List.length_drop, List.length_take]; rfl)) ?_
                                      with_reducible refine (impl_turnTile.calls kj14 ((rd_T24 l0 ((rd_T74 l3 x25_1).f0)).f0) ((rd_T24 l0 ((rd_T74 l3 x25_1).f0)).f1) ((rd_T24 l0 ((rd_T74 l3 x25_1).f0)).f2) ((rd_T24 l0 ((rd_T74 l3 x25_1).f0)).f3) ((rd_T74 l3 x25_1).f1) t519 t520 t521 t522 _ A33.out).mono ?_
                                      rintro e w42 ⟨rfl, hb⟩
                                      refine ⟨_, rfl, ?_⟩
                                      have n0_ := Aside0.mk (Kd.R_below (by (with_reducible repeat (first | apply Kd.R_alloc | apply Kd.R_drewN | apply Kd.R_drew)); exact HO_9.out) hb)
                                      have n1_ := Aside0.mk (Kd.R_below (by (with_reducible repeat (first | apply Kd.R_alloc | apply Kd.R_drewN | apply Kd.R_drew)); exact HO_10.out) hb)
                                      have n2_ := Aside0.mk (blk_below (g := gb513) (o := .cells #[.int .i64 ((rd_T74 l3 x25_1).f0), .int .i64 ((rd_T74 l3 x25_1).f1)] 74 (0, 0)) (by (with_reducible repeat (first | refine blk_drewN ?_ _ | refine blk_drew ?_ | refine blk_alloc ?_ _)); exact BK513.out) hb)
                                      have n3_ := Aside0.mk (blk_below (g := gb523) (o := .cells #[.int .i64 0, .int .i64 0, .int .i64 0, .int .i64 0] 24 (0, 0)) (by (with_reducible repeat (first | refine blk_drewN ?_ _ | refine blk_drew ?_ | refine blk_alloc ?_ _)); exact BK523.out) hb)
                                      have n4_ := Aside0.mk (below_step (by repeat (first | (with_reducible first | exact HB.out | apply below_alloc | apply pw_below_drewN | apply below_drew1 | refine below_set ?_ GE513.out | refine below_set ?_ GE523.out) | exact HB.out)) hb)
                                      clear HO_9
                                      clear HO_10
                                      clear BK513
                                      clear BK523
                                      clear HB
                                      have HO_9 := n0_
                                      have HO_10 := n1_
                                      have BK513 := n2_
                                      have BK523 := n3_
                                      have HB := n4_
                                      clear n0_ n1_ n2_ n3_ n4_
                                      (try clear hb)
                                      (try clear hb2)
                                      (try clear hk)
                                      (try clear hi)
                                      refine hK.out _ _ ⟨(blk_cell BK513.out 0).trans rfl, (blk_cell BK513.out 1).trans rfl, ((HB.out.cell (World.block_lt_of_cell? w _ hw518_0)).trans hw518_0), ((HB.out.cell (World.block_lt_of_cell? w _ hw518_1)).trans hw518_1), ((HB.out.cell (World.block_lt_of_cell? w _ hw518_2)).trans hw518_2), ((HB.out.cell (World.block_lt_of_cell? w _ hw518_3)).trans hw518_3)⟩ (fun hHeld => ?_)
                                      clear hK K
                                      refine norm_ (a' := ?_) ?_ ?_
                                      rotate_left
                                      · show Act.put _ (some 60) _ = _
                                        simp only [Act.put, List.setIfInBounds_toArray, List.set_cons_zero, List.set_cons_succ, i64_w, i32_w]
                                        rfl
                                      exact norm_ (by simp only [putAll, Act.put, List.setIfInBounds_toArray, List.set_cons_zero, List.set_cons_succ]) (hCont (gb523) _ ⟨hHeld, (by (with_reducible repeat (first | apply Kd.R_alloc | apply Kd.R_drewN | apply Kd.R_drew)); exact Kd.R_mono HO_10.out (fun _ hk => hk.2)), (by (with_reducible repeat (first | apply Kd.R_alloc | apply Kd.R_drewN | apply Kd.R_drew)); exact HO_9.out), (by (with_reducible repeat (first | refine blk_drewN ?_ _ | refine blk_drew ?_ | refine blk_alloc ?_ _)); exact BK513.out), (by (with_reducible repeat (first | refine blk_drewN ?_ _ | refine blk_drew ?_ | refine blk_alloc ?_ _)); exact BK523.out), GW523.out, GE523.out, NB513_523.out, NB523_513.out, (by repeat (first | (with_reducible first | exact HB.out | apply below_alloc | apply pw_below_drewN | apply below_drew1 | refine below_set ?_ GE513.out | refine below_set ?_ GE523.out) | exact HB.out))⟩)
                                  rintro gb523 w43 ⟨hS_, h0_, h1_, h2_, h3_, h4_, h5_, h6_, h7_, h8_⟩
                                  have n0_ : Aside0 (Kd.R k24 24 w43 w.heap.size (fun k_ => k_ ≠ gb523) u10 x10_1) := ⟨h0_⟩
                                  have n1_ : Aside0 (Kd.R Kd.bool 4 w43 w.heap.size (fun _ => True) (.slice (some ⟨go31, 0, none⟩) x9_1.length co31) y517) := ⟨h1_⟩
                                  have n2_ : Aside0 (w43.heap[gb513]? = some (.cells #[.int .i64 ((rd_T74 l3 x25_1).f0), .int .i64 ((rd_T74 l3 x25_1).f1)] 74 (0, 0))) := ⟨h2_⟩
                                  have n3_ : Aside0 (w43.heap[gb523]? = some (.cells #[.int .i64 0, .int .i64 0, .int .i64 0, .int .i64 0] 24 (0, 0))) := ⟨h3_⟩
                                  have n4_ : Aside0 (w.heap.size ≤ gb523) := ⟨h4_⟩
                                  have n5_ : Aside0 (w.heap.size ≤ gb523) := ⟨h5_⟩
                                  have n6_ : Aside0 (gb513 ≠ gb523) := ⟨h6_⟩
                                  have n7_ : Aside0 (gb523 ≠ gb513) := ⟨h7_⟩
                                  have n8_ : Aside0 (Below w.heap.size w w43) := ⟨h8_⟩
                                  clear HO_9
                                  clear HO_10
                                  clear BK513
                                  clear HB
                                  clear h0_ h1_ h2_ h3_ h4_ h5_ h6_ h7_ h8_
                                  have HO_10 := n0_
                                  have HO_9 := n1_
                                  have BK513 := n2_
                                  have BK523 := n3_
                                  have GW523 := n4_
                                  have GE523 := n5_
                                  have NB513_523 := n6_
                                  have NB523_513 := n7_
                                  have HB := n8_
                                  clear n0_ n1_ n2_ n3_ n4_ n5_ n6_ n7_ n8_
                                  have hHeld : w43.cell? ⟨gb513, 0, none⟩ = some (.int .i64 ((rd_T74 l3 x25_1).f0)) ∧ w43.cell? ⟨gb513, 1, none⟩ = some (.int .i64 ((rd_T74 l3 x25_1).f1)) ∧ w43.cell? (ad518.add ((((rd_T74 l3 x25_1).f0)).toNat * 4)) = some (.int .i64 ((rd_T24 l0 ((rd_T74 l3 x25_1).f0)).f0)) ∧ w43.cell? ⟨(ad518.add ((((rd_T74 l3 x25_1).f0)).toNat * 4)).block, (ad518.add ((((rd_T74 l3 x25_1).f0)).toNat * 4)).off + 1, none⟩ = some (.int .i64 ((rd_T24 l0 ((rd_T74 l3 x25_1).f0)).f1)) ∧ w43.cell? ⟨(ad518.add ((((rd_T74 l3 x25_1).f0)).toNat * 4)).block, (ad518.add ((((rd_T74 l3 x25_1).f0)).toNat * 4)).off + 2, none⟩ = some (.int .i64 ((rd_T24 l0 ((rd_T74 l3 x25_1).f0)).f2)) ∧ w43.cell? ⟨(ad518.add ((((rd_T74 l3 x25_1).f0)).toNat * 4)).block, (ad518.add ((((rd_T74 l3 x25_1).f0)).toNat * 4)).off + 3, none⟩ = some (.int .i64 ((rd_T24 l0 ((rd_T74 l3 x25_1).f0)).f3)) := hS_
                                  refine norm_ (a' := ?_) ?_ ?_
                                  rotate_left
                                  · simp only [putAll, Act.put, List.setIfInBounds_toArray, List.set_cons_zero, List.set_cons_succ]
                                    rfl
                                  refine one_ (i := 9) (N := none) #[true, true, true, true, true, true, true, true, true, true] rfl rfl (one_of HT_.out (by kernel_rfl)) (by decide) (fun K hK => ?_)
                                  have hs44 : w43.cell? ⟨gb523, 0, none⟩ = some (.int .i64 0) := (blk_cell BK523.out 0).trans rfl
                                  have hfs44 := blk_frozen BK523.out 0
                                  have hns44_0 := NB513_523.out
                                  have hms44_0 := NB523_513.out
                                  have hs45 : w43.cell? ⟨gb523, 1, none⟩ = some (.int .i64 0) := (blk_cell BK523.out 1).trans rfl
                                  have hfs45 := blk_frozen BK523.out 1
                                  have hns45_0 := NB513_523.out
                                  have hms45_0 := NB523_513.out
                                  have hs46 : w43.cell? ⟨gb523, 2, none⟩ = some (.int .i64 0) := (blk_cell BK523.out 2).trans rfl
                                  have hfs46 := blk_frozen BK523.out 2
                                  have hns46_0 := NB513_523.out
                                  have hms46_0 := NB523_513.out
                                  have hs47 : w43.cell? ⟨gb523, 3, none⟩ = some (.int .i64 0) := (blk_cell BK523.out 3).trans rfl
                                  have hfs47 := blk_frozen BK523.out 3
                                  have hns47_0 := NB513_523.out
                                  have hms47_0 := NB523_513.out
                                  refine skip_ (w1 := ?_) (by rfl) rfl ?_ ?_
                                  rotate_left
                                  · go_simp
                                    rfl
                                  refine hK.out _ _ ⟨((cell_far (p := ⟨gb523, _, none⟩) NB513_523.out _).trans (((cell_far (p := ⟨gb523, _, none⟩) NB513_523.out _).trans (((cell_far (p := ⟨gb523, _, none⟩) NB513_523.out _).trans (((cell_far (p := ⟨gb523, _, none⟩) NB513_523.out _).trans (hHeld.1)))))))), ((cell_far (p := ⟨gb523, _, none⟩) NB513_523.out _).trans (((cell_far (p := ⟨gb523, _, none⟩) NB513_523.out _).trans (((cell_far (p := ⟨gb523, _, none⟩) NB513_523.out _).trans (((cell_far (p := ⟨gb523, _, none⟩) NB513_523.out _).trans (hHeld.2.1)))))))), ((cell_far (p := ⟨gb523, _, none⟩) (by first | exact Nat.ne_of_lt (Nat.lt_of_lt_of_le (by have := World.block_lt_of_cell? _ _ hw518_0; first | rwa [add_block] at this | exact this) GW523.out) | (rw [add_block]; exact Nat.ne_of_lt (Nat.lt_of_lt_of_le (by have := World.block_lt_of_cell? _ _ hw518_0; first | rwa [add_block] at this | exact this) GW523.out)) | (show (Addr.add _ _).block ≠ _; rw [add_block]; exact Nat.ne_of_lt (Nat.lt_of_lt_of_le (by have := World.block_lt_of_cell? _ _ hw518_0; first | rwa [add_block] at this | exact this) GW523.out)) | (dsimp only; exact Nat.ne_of_lt (Nat.lt_of_lt_of_le (by have := World.block_lt_of_cell? _ _ hw518_0; first | rwa [add_block] at this | exact this) GW523.out))) _).trans (((cell_far (p := ⟨gb523, _, none⟩) (by first | exact Nat.ne_of_lt (Nat.lt_of_lt_of_le (by have := World.block_lt_of_cell? _ _ hw518_0; first | rwa [add_block] at this | exact this) GW523.out) | (rw [add_block]; exact Nat.ne_of_lt (Nat.lt_of_lt_of_le (by have := World.block_lt_of_cell? _ _ hw518_0; first | rwa [add_block] at this | exact this) GW523.out)) | (show (Addr.add _ _).block ≠ _; rw [add_block]; exact Nat.ne_of_lt (Nat.lt_of_lt_of_le (by have := World.block_lt_of_cell? _ _ hw518_0; first | rwa [add_block] at this | exact this) GW523.out)) | (dsimp only; exact Nat.ne_of_lt (Nat.lt_of_lt_of_le (by have := World.block_lt_of_cell? _ _ hw518_0; first | rwa [add_block] at this | exact this) GW523.out))) _).trans (((cell_far (p := ⟨gb523, _, none⟩) (by first | exact Nat.ne_of_lt (Nat.lt_of_lt_of_le (by have := World.block_lt_of_cell? _ _ hw518_0; first | rwa [add_block] at this | exact this) GW523.out) | (rw [add_block]; exact Nat.ne_of_lt (Nat.lt_of_lt_of_le (by have := World.block_lt_of_cell? _ _ hw518_0; first | rwa [add_block] at this | exact this) GW523.out)) | (show (Addr.add _ _).block ≠ _; rw [add_block]; exact Nat.ne_of_lt (Nat.lt_of_lt_of_le (by have := World.block_lt_of_cell? _ _ hw518_0; first | rwa [add_block] at this | exact this) GW523.out)) | (dsimp only; exact Nat.ne_of_lt (Nat.lt_of_lt_of_le (by have := World.block_lt_of_cell? _ _ hw518_0; first | rwa [add_block] at this | exact this) GW523.out))) _).trans (((cell_far (p := ⟨gb523, _, none⟩) (by first | exact Nat.ne_of_lt (Nat.lt_of_lt_of_le (by have := World.block_lt_of_cell? _ _ hw518_0; first | rwa [add_block] at this | exact this) GW523.out) | (rw [add_block]; exact Nat.ne_of_lt (Nat.lt_of_lt_of_le (by have := World.block_lt_of_cell? _ _ hw518_0; first | rwa [add_block] at this | exact this) GW523.out)) | (show (Addr.add _ _).block ≠ _; rw [add_block]; exact Nat.ne_of_lt (Nat.lt_of_lt_of_le (by have := World.block_lt_of_cell? _ _ hw518_0; first | rwa [add_block] at this | exact this) GW523.out)) | (dsimp only; exact Nat.ne_of_lt (Nat.lt_of_lt_of_le (by have := World.block_lt_of_cell? _ _ hw518_0; first | rwa [add_block] at this | exact this) GW523.out))) _).trans (hHeld.2.2.1)))))))), ((cell_far (p := ⟨gb523, _, none⟩) (by first | exact Nat.ne_of_lt (Nat.lt_of_lt_of_le (by have := World.block_lt_of_cell? _ _ hw518_1; first | rwa [add_block] at this | exact this) GW523.out) | (rw [add_block]; exact Nat.ne_of_lt (Nat.lt_of_lt_of_le (by have := World.block_lt_of_cell? _ _ hw518_1; first | rwa [add_block] at this | exact this) GW523.out)) | (show (Addr.add _ _).block ≠ _; rw [add_block]; exact Nat.ne_of_lt (Nat.lt_of_lt_of_le (by have := World.block_lt_of_cell? _ _ hw518_1; first | rwa [add_block] at this | exact this) GW523.out)) | (dsimp only; exact Nat.ne_of_lt (Nat.lt_of_lt_of_le (by have := World.block_lt_of_cell? _ _ hw518_1; first | rwa [add_block] at this | exact this) GW523.out))) _).trans (((cell_far (p := ⟨gb523, _, none⟩) (by first | exact Nat.ne_of_lt (Nat.lt_of_lt_of_le (by have := World.block_lt_of_cell? _ _ hw518_1; first | rwa [add_block] at this | exact this) GW523.out) | (rw [add_block]; exact Nat.ne_of_lt (Nat.lt_of_lt_of_le (by have := World.block_lt_of_cell? _ _ hw518_1; first | rwa [add_block] at this | exact this) GW523.out)) | (show (Addr.add _ _).block ≠ _; rw [add_block]; exact Nat.ne_of_lt (Nat.lt_of_lt_of_le (by have := World.block_lt_of_cell? _ _ hw518_1; first | rwa [add_block] at this | exact this) GW523.out)) | (dsimp only; exact Nat.ne_of_lt (Nat.lt_of_lt_of_le (by have := World.block_lt_of_cell? _ _ hw518_1; first | rwa [add_block] at this | exact this) GW523.out))) _).trans (((cell_far (p := ⟨gb523, _, none⟩) (by first | exact Nat.ne_of_lt (Nat.lt_of_lt_of_le (by have := World.block_lt_of_cell? _ _ hw518_1; first | rwa [add_block] at this | exact this) GW523.out) | (rw [add_block]; exact Nat.ne_of_lt (Nat.lt_of_lt_of_le (by have := World.block_lt_of_cell? _ _ hw518_1; first | rwa [add_block] at this | exact this) GW523.out)) | (show (Addr.add _ _).block ≠ _; rw [add_block]; exact Nat.ne_of_lt (Nat.lt_of_lt_of_le (by have := World.block_lt_of_cell? _ _ hw518_1; first | rwa [add_block] at this | exact this) GW523.out)) | (dsimp only; exact Nat.ne_of_lt (Nat.lt_of_lt_of_le (by have := World.block_lt_of_cell? _ _ hw518_1; first | rwa [add_block] at this | exact this) GW523.out))) _).trans (((cell_far (p := ⟨gb523, _, none⟩) (by first | exact Nat.ne_of_lt (Nat.lt_of_lt_of_le (by have := World.block_lt_of_cell? _ _ hw518_1; first | rwa [add_block] at this | exact this) GW523.out) | (rw [add_block]; exact Nat.ne_of_lt (Nat.lt_of_lt_of_le (by have := World.block_lt_of_cell? _ _ hw518_1; first | rwa [add_block] at this | exact this) GW523.out)) | (show (Addr.add _ _).block ≠ _; rw [add_block]; exact Nat.ne_of_lt (Nat.lt_of_lt_of_le (by have := World.block_lt_of_cell? _ _ hw518_1; first | rwa [add_block] at this | exact this) GW523.out)) | (dsimp only; exact Nat.ne_of_lt (Nat.lt_of_lt_of_le (by have := World.block_lt_of_cell? _ _ hw518_1; first | rwa [add_block] at this | exact this) GW523.out))) _).trans (hHeld.2.2.2.1)))))))), ((cell_far (p := ⟨gb523, _, none⟩) (by first | exact Nat.ne_of_lt (Nat.lt_of_lt_of_le (by have := World.block_lt_of_cell? _ _ hw518_2; first | rwa [add_block] at this | exact this) GW523.out) | (rw [add_block]; exact Nat.ne_of_lt (Nat.lt_of_lt_of_le (by have := World.block_lt_of_cell? _ _ hw518_2; first | rwa [add_block] at this | exact this) GW523.out)) | (show (Addr.add _ _).block ≠ _; rw [add_block]; exact Nat.ne_of_lt (Nat.lt_of_lt_of_le (by have := World.block_lt_of_cell? _ _ hw518_2; first | rwa [add_block] at this | exact this) GW523.out)) | (dsimp only; exact Nat.ne_of_lt (Nat.lt_of_lt_of_le (by have := World.block_lt_of_cell? _ _ hw518_2; first | rwa [add_block] at this | exact this) GW523.out))) _).trans (((cell_far (p := ⟨gb523, _, none⟩) (by first | exact Nat.ne_of_lt (Nat.lt_of_lt_of_le (by have := World.block_lt_of_cell? _ _ hw518_2; first | rwa [add_block] at this | exact this) GW523.out) | (rw [add_block]; exact Nat.ne_of_lt (Nat.lt_of_lt_of_le (by have := World.block_lt_of_cell? _ _ hw518_2; first | rwa [add_block] at this | exact this) GW523.out)) | (show (Addr.add _ _).block ≠ _; rw [add_block]; exact Nat.ne_of_lt (Nat.lt_of_lt_of_le (by have := World.block_lt_of_cell? _ _ hw518_2; first | rwa [add_block] at this | exact this) GW523.out)) | (dsimp only; exact Nat.ne_of_lt (Nat.lt_of_lt_of_le (by have := World.block_lt_of_cell? _ _ hw518_2; first | rwa [add_block] at this | exact this) GW523.out))) _).trans (((cell_far (p := ⟨gb523, _, none⟩) (by first | exact Nat.ne_of_lt (Nat.lt_of_lt_of_le (by have := World.block_lt_of_cell? _ _ hw518_2; first | rwa [add_block] at this | exact this) GW523.out) | (rw [add_block]; exact Nat.ne_of_lt (Nat.lt_of_lt_of_le (by have := World.block_lt_of_cell? _ _ hw518_2; first | rwa [add_block] at this | exact this) GW523.out)) | (show (Addr.add _ _).block ≠ _; rw [add_block]; exact Nat.ne_of_lt (Nat.lt_of_lt_of_le (by have := World.block_lt_of_cell? _ _ hw518_2; first | rwa [add_block] at this | exact this) GW523.out)) | (dsimp only; exact Nat.ne_of_lt (Nat.lt_of_lt_of_le (by have := World.block_lt_of_cell? _ _ hw518_2; first | rwa [add_block] at this | exact this) GW523.out))) _).trans (((cell_far (p := ⟨gb523, _, none⟩) (by first | exact Nat.ne_of_lt (Nat.lt_of_lt_of_le (by have := World.block_lt_of_cell? _ _ hw518_2; first | rwa [add_block] at this | exact this) GW523.out) | (rw [add_block]; exact Nat.ne_of_lt (Nat.lt_of_lt_of_le (by have := World.block_lt_of_cell? _ _ hw518_2; first | rwa [add_block] at this | exact this) GW523.out)) | (show (Addr.add _ _).block ≠ _; rw [add_block]; exact Nat.ne_of_lt (Nat.lt_of_lt_of_le (by have := World.block_lt_of_cell? _ _ hw518_2; first | rwa [add_block] at this | exact this) GW523.out)) | (dsimp only; exact Nat.ne_of_lt (Nat.lt_of_lt_of_le (by have := World.block_lt_of_cell? _ _ hw518_2; first | rwa [add_block] at this | exact this) GW523.out))) _).trans (hHeld.2.2.2.2.1)))))))), ((cell_far (p := ⟨gb523, _, none⟩) (by first | exact Nat.ne_of_lt (Nat.lt_of_lt_of_le (by have := World.block_lt_of_cell? _ _ hw518_3; first | rwa [add_block] at this | exact this) GW523.out) | (rw [add_block]; exact Nat.ne_of_lt (Nat.lt_of_lt_of_le (by have := World.block_lt_of_cell? _ _ hw518_3; first | rwa [add_block] at this | exact this) GW523.out)) | (show (Addr.add _ _).block ≠ _; rw [add_block]; exact Nat.ne_of_lt (Nat.lt_of_lt_of_le (by have := World.block_lt_of_cell? _ _ hw518_3; first | rwa [add_block] at this | exact this) GW523.out)) | (dsimp only; exact Nat.ne_of_lt (Nat.lt_of_lt_of_le (by have := World.block_lt_of_cell? _ _ hw518_3; first | rwa [add_block] at this | exact this) GW523.out))) _).trans (((cell_far (p := ⟨gb523, _, none⟩) (by first | exact Nat.ne_of_lt (Nat.lt_of_lt_of_le (by have := World.block_lt_of_cell? _ _ hw518_3; first | rwa [add_block] at this | exact this) GW523.out) | (rw [add_block]; exact Nat.ne_of_lt (Nat.lt_of_lt_of_le (by have := World.block_lt_of_cell? _ _ hw518_3; first | rwa [add_block] at this | exact this) GW523.out)) | (show (Addr.add _ _).block ≠ _; rw [add_block]; exact Nat.ne_of_lt (Nat.lt_of_lt_of_le (by have := World.block_lt_of_cell? _ _ hw518_3; first | rwa [add_block] at this | exact this) GW523.out)) | (dsimp only; exact Nat.ne_of_lt (Nat.lt_of_lt_of_le (by have := World.block_lt_of_cell? _ _ hw518_3; first | rwa [add_block] at this | exact this) GW523.out))) _).trans (((cell_far (p := ⟨gb523, _, none⟩) (by first | exact Nat.ne_of_lt (Nat.lt_of_lt_of_le (by have := World.block_lt_of_cell? _ _ hw518_3; first | rwa [add_block] at this | exact this) GW523.out) | (rw [add_block]; exact Nat.ne_of_lt (Nat.lt_of_lt_of_le (by have := World.block_lt_of_cell? _ _ hw518_3; first | rwa [add_block] at this | exact this) GW523.out)) | (show (Addr.add _ _).block ≠ _; rw [add_block]; exact Nat.ne_of_lt (Nat.lt_of_lt_of_le (by have := World.block_lt_of_cell? _ _ hw518_3; first | rwa [add_block] at this | exact this) GW523.out)) | (dsimp only; exact Nat.ne_of_lt (Nat.lt_of_lt_of_le (by have := World.block_lt_of_cell? _ _ hw518_3; first | rwa [add_block] at this | exact this) GW523.out))) _).trans (((cell_far (p := ⟨gb523, _, none⟩) (by first | exact Nat.ne_of_lt (Nat.lt_of_lt_of_le (by have := World.block_lt_of_cell? _ _ hw518_3; first | rwa [add_block] at this | exact this) GW523.out) | (rw [add_block]; exact Nat.ne_of_lt (Nat.lt_of_lt_of_le (by have := World.block_lt_of_cell? _ _ hw518_3; first | rwa [add_block] at this | exact this) GW523.out)) | (show (Addr.add _ _).block ≠ _; rw [add_block]; exact Nat.ne_of_lt (Nat.lt_of_lt_of_le (by have := World.block_lt_of_cell? _ _ hw518_3; first | rwa [add_block] at this | exact this) GW523.out)) | (dsimp only; exact Nat.ne_of_lt (Nat.lt_of_lt_of_le (by have := World.block_lt_of_cell? _ _ hw518_3; first | rwa [add_block] at this | exact this) GW523.out))) _).trans (hHeld.2.2.2.2.2))))))))⟩ (fun hHeld => ?_)
                                  clear hK K
                                  refine done_ (done_of HT_.out (by kernel_rfl)) ?_
                                  have hnb48 := NB523_513.out
                                  have hnc48 := NB513_523.out
                                  have hcz49_0 : w43.cell? ⟨gb523, 0, none⟩ = some (.int .i64 0) := (blk_cell BK523.out 0).trans rfl
                                  have hcz49_1 : w43.cell? ⟨gb523, 1, none⟩ = some (.int .i64 0) := (blk_cell BK523.out 1).trans rfl
                                  have hcz49_2 : w43.cell? ⟨gb523, 2, none⟩ = some (.int .i64 0) := (blk_cell BK523.out 2).trans rfl
                                  have hcz49_3 : w43.cell? ⟨gb523, 3, none⟩ = some (.int .i64 0) := (blk_cell BK523.out 3).trans rfl
                                  have hfz49_0 := blk_frozen BK523.out 0
                                  have hfz49_1 := blk_frozen BK523.out 1
                                  have hfz49_2 := blk_frozen BK523.out 2
                                  have hfz49_3 := blk_frozen BK523.out 3
                                  obtain ⟨Ao50, co50, eo50⟩ := Kd.R_slice HO_10.out
                                  subst eo50
                                  try go_wp2_with (first | ((with_reducible refine gate_callee (f := 77) rfl ?_); refine goesL_ (some 65) rfl rfl Try.func77 (by kernel_rfl) rfl #[.agg #[.int .i64 t519, .int .i64 t520, .int .i64 t521, .int .i64 t522], .slice Ao50 x10_1.length co50, .int .i64 a1, .int .i64 a2] rfl (by (try simp only [List.map_toArray, List.map_cons, List.map_nil]); first | done | rfl | (simp only [List.length_drop, List.length_take]; rfl)) ?_; (with_reducible refine (impl_fits.calls kj14 t519 t520 t521 t522 _ _ x10_1 a1 a2 true _ ?side1 ?side2 A34.out).mono ?_); (case side1 => refine (Kd.R_reads' (e := 24) (base := w.heap.size) (ok := fun k_ => k_ ≠ gb523) (n := x10_1.length) (c := co50) ?_).2.2; exact (by (with_reducible repeat (first | apply Kd.R_alloc | apply Kd.R_drewN | apply Kd.R_drew)); exact (Kd.R_mono (Kd.R_far (p := ⟨gb523, 3, none⟩) (Kd.R_far (p := ⟨gb523, 2, none⟩) (Kd.R_far (p := ⟨gb523, 1, none⟩) (Kd.R_far (p := ⟨gb523, 0, none⟩) (Kd.R_mono HO_10.out (fun k_ hk => (⟨hk, hk⟩ : _ ∧ k_ ≠ gb523))) (fun _ hk => hk.2) (.int .i64 t519)) (fun _ hk => hk.2) (.int .i64 t520)) (fun _ hk => hk.2) (.int .i64 t521)) (fun _ hk => hk.2) (.int .i64 t522)) (fun _ h_ => h_.1)))); (case side2 => exact (Kd.R_reads' HO_10.out).2.1); rintro e w51 ⟨rfl, hb⟩; refine ⟨_, rfl, ?_⟩; have n0_ := Aside0.mk (Kd.R_below (by (with_reducible repeat (first | apply Kd.R_alloc | apply Kd.R_drewN | apply Kd.R_drew)); exact (Kd.R_mono (Kd.R_far (p := ⟨gb523, 3, none⟩) (Kd.R_far (p := ⟨gb523, 2, none⟩) (Kd.R_far (p := ⟨gb523, 1, none⟩) (Kd.R_far (p := ⟨gb523, 0, none⟩) (Kd.R_types HO_9.out BK523.out (by decide)) (fun _ hk => hk.2) (.int .i64 t519)) (fun _ hk => hk.2) (.int .i64 t520)) (fun _ hk => hk.2) (.int .i64 t521)) (fun _ hk => hk.2) (.int .i64 t522)) (fun _ h_ => h_.1))) hb); have n1_ := Aside0.mk (Kd.R_below (by (with_reducible repeat (first | apply Kd.R_alloc | apply Kd.R_drewN | apply Kd.R_drew)); exact (Kd.R_mono (Kd.R_far (p := ⟨gb523, 3, none⟩) (Kd.R_far (p := ⟨gb523, 2, none⟩) (Kd.R_far (p := ⟨gb523, 1, none⟩) (Kd.R_far (p := ⟨gb523, 0, none⟩) (Kd.R_mono HO_10.out (fun k_ hk => (⟨hk, hk⟩ : _ ∧ k_ ≠ gb523))) (fun _ hk => hk.2) (.int .i64 t519)) (fun _ hk => hk.2) (.int .i64 t520)) (fun _ hk => hk.2) (.int .i64 t521)) (fun _ hk => hk.2) (.int .i64 t522)) (fun _ h_ => h_.1))) hb); have n2_ := Aside0.mk (blk_below (g := gb513) (o := .cells #[.int .i64 ((rd_T74 l3 x25_1).f0), .int .i64 ((rd_T74 l3 x25_1).f1)] 74 (0, 0)) (by (with_reducible repeat (first | refine blk_drewN ?_ _ | refine blk_drew ?_ | refine blk_alloc ?_ _)); refine blk_far ?_ NB513_523.out _; (with_reducible repeat (first | refine blk_drewN ?_ _ | refine blk_drew ?_ | refine blk_alloc ?_ _)); refine blk_far ?_ NB513_523.out _; (with_reducible repeat (first | refine blk_drewN ?_ _ | refine blk_drew ?_ | refine blk_alloc ?_ _)); refine blk_far ?_ NB513_523.out _; (with_reducible repeat (first | refine blk_drewN ?_ _ | refine blk_drew ?_ | refine blk_alloc ?_ _)); refine blk_far ?_ NB513_523.out _; (with_reducible repeat (first | refine blk_drewN ?_ _ | refine blk_drew ?_ | refine blk_alloc ?_ _)); exact BK513.out) hb); have n3_ := Aside0.mk (blk_below (g := gb523) (o := .cells #[.int .i64 t519, .int .i64 t520, .int .i64 t521, .int .i64 t522] 24 (0, 0)) (by (with_reducible repeat (first | refine blk_drewN ?_ _ | refine blk_drew ?_ | refine blk_alloc ?_ _)); refine blk_put (cs := #[.int .i64 t519, .int .i64 t520, .int .i64 t521, .int .i64 0]) ?_ 3 _ rfl; (with_reducible repeat (first | refine blk_drewN ?_ _ | refine blk_drew ?_ | refine blk_alloc ?_ _)); refine blk_put (cs := #[.int .i64 t519, .int .i64 t520, .int .i64 0, .int .i64 0]) ?_ 2 _ rfl; (with_reducible repeat (first | refine blk_drewN ?_ _ | refine blk_drew ?_ | refine blk_alloc ?_ _)); refine blk_put (cs := #[.int .i64 t519, .int .i64 0, .int .i64 0, .int .i64 0]) ?_ 1 _ rfl; (with_reducible repeat (first | refine blk_drewN ?_ _ | refine blk_drew ?_ | refine blk_alloc ?_ _)); refine blk_put (cs := #[.int .i64 0, .int .i64 0, .int .i64 0, .int .i64 0]) ?_ 0 _ rfl; (with_reducible repeat (first | refine blk_drewN ?_ _ | refine blk_drew ?_ | refine blk_alloc ?_ _)); exact BK523.out) hb); have n4_ := Aside0.mk (below_step (by repeat (first | (with_reducible first | exact HB.out | apply below_alloc | apply pw_below_drewN | apply below_drew1 | refine below_set ?_ GE513.out | refine below_set ?_ GE523.out) | exact HB.out)) hb); clear HO_9; clear HO_10; clear BK513; clear BK523; clear HB; have HO_9 := n0_; have HO_10 := n1_; have BK513 := n2_; have BK523 := n3_; have HB := n4_; clear n0_ n1_ n2_ n3_ n4_; (try clear hb); (try clear hb2); (try clear hk); (try clear hi); have hcz52_0 : w51.cell? ⟨gb523, 0, none⟩ = some (.int .i64 t519) := (blk_cell BK523.out 0).trans rfl; have hcz52_1 : w51.cell? ⟨gb523, 1, none⟩ = some (.int .i64 t520) := (blk_cell BK523.out 1).trans rfl; have hcz52_2 : w51.cell? ⟨gb523, 2, none⟩ = some (.int .i64 t521) := (blk_cell BK523.out 2).trans rfl; have hcz52_3 : w51.cell? ⟨gb523, 3, none⟩ = some (.int .i64 t522) := (blk_cell BK523.out 3).trans rfl; have hfz52_0 := blk_frozen BK523.out 0; have hfz52_1 := blk_frozen BK523.out 1; have hfz52_2 := blk_frozen BK523.out 2; have hfz52_3 := blk_frozen BK523.out 3) | ((with_reducible refine gate_builtin (b := .append) (xs := #[.tmp 67, .tmp 69]) rfl ?_); at_builtin; refine Kd.R_append k24 (w0 := w) w.heap.size rfl (.tmp 67) (.tmp 69) 34 24 (.agg #[(.int .i64 0), (.int .i64 0), (.int .i64 0), (.int .i64 0)]) 32 rfl Try.underlying34 info24 rfl (by decide) (by omega) (.slice Ao50 x10_1.length co50) x10_1 (⟨t519, t520, t521, t522⟩ : S24) [.int .i64 t519, .int .i64 t520, .int .i64 t521, .int .i64 t522] (fun k_ => k_ ≠ gb523) (fun _ => False) rfl rfl ?aP (fun _ hk => hk.elim) ?aF ?aO ?aB ?aS ?aL ?_; (case aP => exact k24_mkM _ _ _ (⟨t519, t520, t521, t522⟩ : S24)); (case aB => exact (by repeat (first | (with_reducible first | exact HB.out | apply below_alloc | apply pw_below_drewN | apply below_drew1 | refine below_set ?_ GE513.out | refine below_set ?_ GE523.out) | exact HB.out))); (case aF => exact (fun k_ hk => Kd.freshB (g := gb523) (o := .cells #[.int .i64 t519, .int .i64 t520, .int .i64 t521, .int .i64 t522] 24 (0, 0)) (by (with_reducible repeat (first | refine blk_drewN ?_ _ | refine blk_drew ?_ | refine blk_alloc ?_ _)); exact BK523.out) k_ hk)); (case aO => exact (by (with_reducible repeat (first | apply Kd.R_alloc | apply Kd.R_drewN | apply Kd.R_drew)); exact HO_10.out)); (case aS => exact (below_size (by repeat (first | (with_reducible first | exact HB.out | apply below_alloc | apply pw_below_drewN | apply below_drew1 | refine below_set ?_ GE513.out | refine below_set ?_ GE523.out) | exact HB.out)))); (case aL => have := LMc36.out; omega); intro v526 w53 ho hb hg hat; rw [← Ny525.out] at ho; have n0_ := Aside0.mk (Kd.R_over' (by (with_reducible repeat (first | apply Kd.R_alloc | apply Kd.R_drewN | apply Kd.R_drew)); exact HO_9.out) (Kd.R_typed (by (with_reducible repeat (first | apply Kd.R_alloc | apply Kd.R_drewN | apply Kd.R_drew)); exact HO_10.out)) (by decide) hg); have n1_ := Aside0.mk (blk_grown (g := gb513) (o := .cells #[.int .i64 ((rd_T74 l3 x25_1).f0), .int .i64 ((rd_T74 l3 x25_1).f1)] 74 (0, 0)) (by (with_reducible repeat (first | refine blk_drewN ?_ _ | refine blk_drew ?_ | refine blk_alloc ?_ _)); exact BK513.out) hg (Kd.R_ne HO_10.out BK513.out (by decide))); have n2_ := Aside0.mk (blk_grown (g := gb523) (o := .cells #[.int .i64 t519, .int .i64 t520, .int .i64 t521, .int .i64 t522] 24 (0, 0)) (by (with_reducible repeat (first | refine blk_drewN ?_ _ | refine blk_drew ?_ | refine blk_alloc ?_ _)); exact BK523.out) hg (Kd.R_away HO_10.out (fun _ hk => hk))); have n3_ := Aside0.mk (hb); have n4_ := Aside0.mk (ho); clear HO_9; clear BK513; clear BK523; clear HB; clear HO_10; have HO_9 := n0_; have BK513 := n1_; have BK523 := n2_; have HB := n3_; have HO527 := n4_; clear n0_ n1_ n2_ n3_ n4_; clear ho hb hg hat))
                                  go_roundg kj14
                                  case measure => have := HK1.out; have := HJ14.out; omega
                                  case rel => exact ⟨(y517), (y525), (wrap64 (x25_1 + 1)), (by first | rfl | (simp; done) | (simp [*]; done)), H', ⟨by have := HK1.out; have := HJ14.out; omega⟩, ⟨by (with_reducible repeat (first | apply Kd.R_alloc | apply Kd.R_drewN | apply Kd.R_drew)); exact HO_9.out⟩, ⟨by (with_reducible repeat (first | apply Kd.R_alloc | apply Kd.R_drewN | apply Kd.R_drew)); exact Kd.R_mono HO527.out (fun _ hk => trivial)⟩, ⟨by repeat (first | (with_reducible first | exact HB.out | apply below_alloc | apply pw_below_drewN | apply below_drew1 | refine below_set ?_ GE513.out | refine below_set ?_ GE523.out) | exact HB.out)⟩⟩
                                · rw [if_neg c36] at H
                                  exact absurd H (by simp)
                              · replace c35 := Bool.eq_false_iff.mpr c35
                                subst c35
                                have H1 : (some false) = some r := by rw [if_neg (show ¬ (false = true) by decide)] at H; exact H
                                clear H
                                have H := H1
                                clear H1
                                obtain rfl := Option.some.inj H
                                have hcz54_0 : wc.cell? ⟨gb513, 0, none⟩ = some (.int .i64 ((rd_T74 l3 x25_1).f0)) := (blk_cell BK513.out 0).trans rfl
                                have hcz54_1 : wc.cell? ⟨gb513, 1, none⟩ = some (.int .i64 ((rd_T74 l3 x25_1).f1)) := (blk_cell BK513.out 1).trans rfl
                                have hfz54_0 := blk_frozen BK513.out 0
                                have hfz54_1 := blk_frozen BK513.out 1
                                have p31 : 0 ≤ (((rd_T74 l3 x25_1).f0) : Int) := of_decide_eq_true (by first | (with_reducible assumption) | assumption)
                                have q31 : (((rd_T74 l3 x25_1).f0) : Int) < ((x9_1.length : Int) : Int) := of_decide_eq_true (by first | (with_reducible assumption) | assumption)
                                obtain ⟨go31, co31, eo31, gb31, gl31, cl31, HG31⟩ := Kd.R_form HO_9.out (by omega)
                                (first | cases eo31 | (injection eo31 with ea_ en_ ec_; (first | subst ea_ | (injection ea_ with ea_; subst ea_)); subst ec_; clear en_))
                                have GB31 := Aside0.mk gb31
                                have GG31 := Aside0.mk HG31
                                clear gb31 gl31 HG31
                                obtain ⟨hx31_0, hf31_0⟩ := Kd.R_celln false HO_9.out (((rd_T74 l3 x25_1).f0) : Int) p31 q31
                                replace p31 := eq_true p31
                                replace q31 := eq_true q31
                                have HP55 := Kd.R_putg HO_9.out (((rd_T74 l3 x25_1).f0) : Int) true
                                try go_wp2_with (first | ((with_reducible refine gate_store (t := 4) (p := 52) rfl ?_); refine store_event (t := 4) (p := 52) (v := ?vo_w56) (w1 := (wc.setCell ⟨go31, (((rd_T74 l3 x25_1).f0) : Int).toNat, none⟩ (.bool true))) ?hg ?ho ?hn ?hr ?_; (case ho => rfl); (case hg => rfl); (case hn => rfl); (case hr => first | (go_simp; done) | (go_simp; rfl)); intro w56 hw; have hg : wc.grownBy w56 (some go31) := (by rw [hw]; exact HP55.2); have hp_ : Kd.R Kd.bool 4 w56 w.heap.size (fun _ => True) (.slice (some ⟨go31, 0, none⟩) x9_1.length co31) y517 := (by rw [hw, Ny517.out]; exact HP55.1); clear HP55; have n0_ := Aside0.mk (hp_); have n1_ := Aside0.mk (Kd.R_over' (v := (.slice (some ⟨go31, 0, none⟩) x9_1.length co31)) (by (with_reducible repeat (first | apply Kd.R_alloc | apply Kd.R_drewN | apply Kd.R_drew)); exact HO_10.out) (Kd.R_typed HO_9.out) (by decide) hg); have n2_ := Aside0.mk (blk_grown (g := gb513) (o := .cells #[.int .i64 ((rd_T74 l3 x25_1).f0), .int .i64 ((rd_T74 l3 x25_1).f1)] 74 (0, 0)) (by (with_reducible repeat (first | refine blk_drewN ?_ _ | refine blk_drew ?_ | refine blk_alloc ?_ _)); exact BK513.out) hg (Kd.R_ne HO_9.out BK513.out (by decide))); have n3_ := Aside0.mk ((by rw [hw]; exact below_set (HB.out) GB31.out : Below w.heap.size w w56)); clear HO_9; clear HO_10; clear BK513; clear HB; have HO_9 := n0_; have HO_10 := n1_; have BK513 := n2_; have HB := n3_; clear n0_ n1_ n2_ n3_; clear hg hw hp_))
                                have n0_ := Aside0.mk (Kd.R_drew HO_9.out)
                                have n1_ := Aside0.mk (Kd.R_drew HO_10.out)
                                have n2_ := Aside0.mk (blk_drew BK513.out)
                                have n3_ := Aside0.mk (below_drew1 HB.out)
                                clear HO_9
                                clear HO_10
                                clear BK513
                                clear HB
                                have HO_9 := n0_
                                have HO_10 := n1_
                                have BK513 := n2_
                                have HB := n3_
                                clear n0_ n1_ n2_ n3_
                                have p518 : 0 ≤ (((rd_T74 l3 x25_1).f0) : Int) := of_decide_eq_true (by first | (with_reducible assumption) | assumption)
                                have q518 : ((rd_T74 l3 x25_1).f0) < (l0.length : Int) := of_decide_eq_true (by first | (with_reducible assumption) | assumption)
                                obtain ⟨ad518, e518, hx518_0, hx518_1, hx518_2, hx518_3⟩ := at_T24 HR0.out ((rd_T74 l3 x25_1).f0) p518 q518
                                have hw518_3 := hx518_3
                                have hw518_2 := hx518_2
                                have hw518_1 := hx518_1
                                have hw518_0 := hx518_0
                                cases e518
                                replace hx518_0 := (HB.out.cell (World.block_lt_of_cell? w _ hx518_0)).trans hx518_0
                                replace hx518_1 := (HB.out.cell (World.block_lt_of_cell? w _ hx518_1)).trans hx518_1
                                replace hx518_2 := (HB.out.cell (World.block_lt_of_cell? w _ hx518_2)).trans hx518_2
                                replace hx518_3 := (HB.out.cell (World.block_lt_of_cell? w _ hx518_3)).trans hx518_3
                                replace p518 := eq_true p518
                                replace q518 := eq_true q518
                                refine start_ (n := 10) (S := fun w' => w'.cell? ⟨gb513, 0, none⟩ = some (.int .i64 ((rd_T74 l3 x25_1).f0)) ∧ w'.cell? ⟨gb513, 1, none⟩ = some (.int .i64 ((rd_T74 l3 x25_1).f1)) ∧ w'.cell? (ad518.add ((((rd_T74 l3 x25_1).f0)).toNat * 4)) = some (.int .i64 ((rd_T24 l0 ((rd_T74 l3 x25_1).f0)).f0)) ∧ w'.cell? ⟨(ad518.add ((((rd_T74 l3 x25_1).f0)).toNat * 4)).block, (ad518.add ((((rd_T74 l3 x25_1).f0)).toNat * 4)).off + 1, none⟩ = some (.int .i64 ((rd_T24 l0 ((rd_T74 l3 x25_1).f0)).f1)) ∧ w'.cell? ⟨(ad518.add ((((rd_T74 l3 x25_1).f0)).toNat * 4)).block, (ad518.add ((((rd_T74 l3 x25_1).f0)).toNat * 4)).off + 2, none⟩ = some (.int .i64 ((rd_T24 l0 ((rd_T74 l3 x25_1).f0)).f2)) ∧ w'.cell? ⟨(ad518.add ((((rd_T74 l3 x25_1).f0)).toNat * 4)).block, (ad518.add ((((rd_T74 l3 x25_1).f0)).toNat * 4)).off + 3, none⟩ = some (.int .i64 ((rd_T24 l0 ((rd_T74 l3 x25_1).f0)).f3))) (ds := []) #[false, false, false, false, false, false, false, false, false, false] (by kernel_rfl) rfl rfl ⟨(blk_cell BK513.out 0).trans rfl, (blk_cell BK513.out 1).trans rfl, ((HB.out.cell (World.block_lt_of_cell? w _ hw518_0)).trans hw518_0), ((HB.out.cell (World.block_lt_of_cell? w _ hw518_1)).trans hw518_1), ((HB.out.cell (World.block_lt_of_cell? w _ hw518_2)).trans hw518_2), ((HB.out.cell (World.block_lt_of_cell? w _ hw518_3)).trans hw518_3)⟩ (fun hHeld => ?_); refine with_tabW impl_isCorrect.tab11 impl_isCorrect.bits11 (fun HT_ HW_ => ?_)
                                generalize w56.drew = w57 at HO_9 HO_10 BK513 HB hx518_0 hx518_1 hx518_2 hx518_3 hHeld ⊢
                                refine pure_ (i := 0) (N := some 53) (v := ?_) (a' := ?_) #[true, false, false, false, false, false, false, false, false, false] rfl rfl (any_of HT_.out (by kernel_rfl)) (fun _ _ _ h => h) (Or.inl ⟨by rfl, ?_⟩) ?_ ?_
                                rotate_left
                                · intro w'
                                  go_simp
                                  with_reducible rfl
                                rotate_left
                                · simp only [Act.put, List.setIfInBounds_toArray, List.set_cons_zero, List.set_cons_succ, i64_w, i32_w]
                                  rfl
                                refine pure_ (i := 1) (N := some 54) (v := ?_) (a' := ?_) #[true, true, false, false, false, false, false, false, false, false] rfl rfl (any_of HT_.out (by kernel_rfl)) (fun _ _ _ h => h) (Or.inl ⟨by rfl, ?_⟩) ?_ ?_
                                rotate_left
                                · intro w'
                                  go_simp
                                  with_reducible rfl
                                rotate_left
                                · simp only [Act.put, List.setIfInBounds_toArray, List.set_cons_zero, List.set_cons_succ, i64_w, i32_w]
                                  rfl
                                refine pure_ (i := 5) (N := some 58) (v := ?_) (a' := ?_) #[true, true, false, false, false, true, false, false, false, false] rfl rfl (any_of HT_.out (by kernel_rfl)) (fun _ _ _ h => h) (Or.inl ⟨by rfl, ?_⟩) ?_ ?_
                                rotate_left
                                · intro w'
                                  go_simp
                                  with_reducible rfl
                                rotate_left
                                · simp only [Act.put, List.setIfInBounds_toArray, List.set_cons_zero, List.set_cons_succ, i64_w, i32_w]
                                  rfl
                                refine take_ (i := 2) (N := some 55) (v := ?_) (a' := ?_) #[true, true, true, false, false, true, false, false, false, false] rfl rfl (take_ofW HT_.out HW_.out (by kernel_rfl)) (fun _ _ _ h => h) (Or.inl ⟨by rfl, ?_⟩) hHeld ?_ ?_
                                rotate_left
                                · rintro w' ⟨s0, s1, s2, s3, s4, s5⟩
                                  go_simp
                                  with_reducible rfl
                                rotate_left
                                · simp only [Act.put, List.setIfInBounds_toArray, List.set_cons_zero, List.set_cons_succ, i64_w, i32_w]
                                  rfl
                                refine pure_ (i := 3) (N := some 56) (v := ?_) (a' := ?_) #[true, true, true, true, false, true, false, false, false, false] rfl rfl (any_of HT_.out (by kernel_rfl)) (fun _ _ _ h => h) (Or.inl ⟨by rfl, ?_⟩) ?_ ?_
                                rotate_left
                                · intro w'
                                  go_simp
                                  with_reducible rfl
                                rotate_left
                                · simp only [Act.put, List.setIfInBounds_toArray, List.set_cons_zero, List.set_cons_succ, i64_w, i32_w]
                                  rfl
                                refine take_ (i := 4) (N := some 57) (v := ?_) (a' := ?_) #[true, true, true, true, true, true, false, false, false, false] rfl rfl (take_ofW HT_.out HW_.out (by kernel_rfl)) (fun _ _ _ h => h) (Or.inl ⟨by rfl, ?_⟩) hHeld ?_ ?_
                                rotate_left
                                · rintro w' ⟨s0, s1, s2, s3, s4, s5⟩
                                  go_simp
                                  with_reducible rfl
                                rotate_left
                                · simp only [Act.put, List.setIfInBounds_toArray, List.set_cons_zero, List.set_cons_succ, i64_w, i32_w]
                                  rfl
                                refine take_ (i := 6) (N := some 59) (v := ?_) (a' := ?_) #[true, true, true, true, true, true, true, false, false, false] rfl rfl (take_ofW HT_.out HW_.out (by kernel_rfl)) (fun _ _ _ h => h) (Or.inl ⟨by rfl, ?_⟩) hHeld ?_ ?_
                                rotate_left
                                · rintro w' ⟨s0, s1, s2, s3, s4, s5⟩
                                  go_simp
                                  with_reducible rfl
                                rotate_left
                                · simp only [Act.put, List.setIfInBounds_toArray, List.set_cons_zero, List.set_cons_succ, i64_w, i32_w]
                                  rfl
                                refine join_ (σ := Nat) 1 #[true, true, true, true, true, true, true, true, true, false] (fun s_ => [(60, .agg #[.int .i64 t519, .int .i64 t520, .int .i64 t521, .int .i64 t522]), (13, .pointer (some ⟨s_, 0, none⟩))]) (fun s_ w' => (w'.cell? ⟨gb513, 0, none⟩ = some (.int .i64 ((rd_T74 l3 x25_1).f0)) ∧ w'.cell? ⟨gb513, 1, none⟩ = some (.int .i64 ((rd_T74 l3 x25_1).f1)) ∧ w'.cell? (ad518.add ((((rd_T74 l3 x25_1).f0)).toNat * 4)) = some (.int .i64 ((rd_T24 l0 ((rd_T74 l3 x25_1).f0)).f0)) ∧ w'.cell? ⟨(ad518.add ((((rd_T74 l3 x25_1).f0)).toNat * 4)).block, (ad518.add ((((rd_T74 l3 x25_1).f0)).toNat * 4)).off + 1, none⟩ = some (.int .i64 ((rd_T24 l0 ((rd_T74 l3 x25_1).f0)).f1)) ∧ w'.cell? ⟨(ad518.add ((((rd_T74 l3 x25_1).f0)).toNat * 4)).block, (ad518.add ((((rd_T74 l3 x25_1).f0)).toNat * 4)).off + 2, none⟩ = some (.int .i64 ((rd_T24 l0 ((rd_T74 l3 x25_1).f0)).f2)) ∧ w'.cell? ⟨(ad518.add ((((rd_T74 l3 x25_1).f0)).toNat * 4)).block, (ad518.add ((((rd_T74 l3 x25_1).f0)).toNat * 4)).off + 3, none⟩ = some (.int .i64 ((rd_T24 l0 ((rd_T74 l3 x25_1).f0)).f3))) ∧ (Kd.R k24 24 w' w.heap.size (fun k_ => k_ ≠ s_) u10 x10_1) ∧ (Kd.R Kd.bool 4 w' w.heap.size (fun _ => True) (.slice (some ⟨go31, 0, none⟩) x9_1.length co31) y517) ∧ (w'.heap[gb513]? = some (.cells #[.int .i64 ((rd_T74 l3 x25_1).f0), .int .i64 ((rd_T74 l3 x25_1).f1)] 74 (0, 0))) ∧ (w'.heap[s_]? = some (.cells #[.int .i64 0, .int .i64 0, .int .i64 0, .int .i64 0] 24 (0, 0))) ∧ (w.heap.size ≤ s_) ∧ (w.heap.size ≤ s_) ∧ (gb513 ≠ s_) ∧ (s_ ≠ gb513) ∧ (Below w.heap.size w w')) ?_ ?_
                                rotate_left
                                · intro hCont
                                  refine two_ (i := 7) (j := 8) (Ni := some 60) (Nj := some 13) #[true, true, true, true, true, true, true, true, false, false] #[true, true, true, true, true, true, true, false, true, false] rfl rfl rfl rfl (two_of HT_.out (by kernel_rfl)) (by decide) (by decide) (fun K hK => ?_) (fun K hK => ?_)
                                  · skip
                                    refine goes_ Try.func54 (by kernel_rfl) rfl #[.agg #[.int .i64 ((rd_T24 l0 ((rd_T74 l3 x25_1).f0)).f0), .int .i64 ((rd_T24 l0 ((rd_T74 l3 x25_1).f0)).f1), .int .i64 ((rd_T24 l0 ((rd_T74 l3 x25_1).f0)).f2), .int .i64 ((rd_T24 l0 ((rd_T74 l3 x25_1).f0)).f3)], .int .i64 ((rd_T74 l3 x25_1).f1)] (by rfl) rfl rfl (by (try simp only [List.map_toArray, List.map_cons, List.map_nil]); first | done | rfl | (simp only [List.length_drop, List.length_take]; rfl)) ?_
                                    with_reducible refine (impl_turnTile.calls kj14 ((rd_T24 l0 ((rd_T74 l3 x25_1).f0)).f0) ((rd_T24 l0 ((rd_T74 l3 x25_1).f0)).f1) ((rd_T24 l0 ((rd_T74 l3 x25_1).f0)).f2) ((rd_T24 l0 ((rd_T74 l3 x25_1).f0)).f3) ((rd_T74 l3 x25_1).f1) t519 t520 t521 t522 _ A33.out).mono ?_
                                    rintro e w58 ⟨rfl, hb⟩
                                    refine ⟨_, rfl, ?_⟩
                                    have n0_ := Aside0.mk (Kd.R_below (by (with_reducible repeat (first | apply Kd.R_alloc | apply Kd.R_drewN | apply Kd.R_drew)); exact HO_9.out) hb)
                                    have n1_ := Aside0.mk (Kd.R_below (by (with_reducible repeat (first | apply Kd.R_alloc | apply Kd.R_drewN | apply Kd.R_drew)); exact HO_10.out) hb)
                                    have n2_ := Aside0.mk (blk_below (g := gb513) (o := .cells #[.int .i64 ((rd_T74 l3 x25_1).f0), .int .i64 ((rd_T74 l3 x25_1).f1)] 74 (0, 0)) (by (with_reducible repeat (first | refine blk_drewN ?_ _ | refine blk_drew ?_ | refine blk_alloc ?_ _)); exact BK513.out) hb)
                                    have n3_ := Aside0.mk (below_step (by repeat (first | (with_reducible first | exact HB.out | apply below_alloc | apply pw_below_drewN | apply below_drew1 | refine below_set ?_ GE513.out) | exact HB.out)) hb)
                                    clear HO_9
                                    clear HO_10
                                    clear BK513
                                    clear HB
                                    have HO_9 := n0_
                                    have HO_10 := n1_
                                    have BK513 := n2_
                                    have HB := n3_
                                    clear n0_ n1_ n2_ n3_
                                    (try clear hb)
                                    (try clear hb2)
                                    (try clear hk)
                                    (try clear hi)
                                    refine hK.out _ _ ⟨(blk_cell BK513.out 0).trans rfl, (blk_cell BK513.out 1).trans rfl, ((HB.out.cell (World.block_lt_of_cell? w _ hw518_0)).trans hw518_0), ((HB.out.cell (World.block_lt_of_cell? w _ hw518_1)).trans hw518_1), ((HB.out.cell (World.block_lt_of_cell? w _ hw518_2)).trans hw518_2), ((HB.out.cell (World.block_lt_of_cell? w _ hw518_3)).trans hw518_3)⟩ (fun hHeld => ?_)
                                    clear hK K
                                    refine norm_ (a' := ?_) ?_ ?_
                                    rotate_left
                                    · show Act.put _ (some 60) _ = _
                                      simp only [Act.put, List.setIfInBounds_toArray, List.set_cons_zero, List.set_cons_succ, i64_w, i32_w]
                                      rfl
                                    refine one_ (i := 8) (N := some 13) #[true, true, true, true, true, true, true, true, true, false] rfl rfl (one_of HT_.out (by kernel_rfl)) (by decide) (fun K hK => ?_)
                                    refine box_step ?hg (N := 13) ?hd (cs := #[.int .i64 0, .int .i64 0, .int .i64 0, .int .i64 0]) (t := 24) ?hr ?_; (case hd => rfl); (case hg => rfl); (case hr => first | (go_simp; done) | (go_simp; rfl))
                                    intro gb523 hg w59 hbox hb
                                    have n0_ := Aside0.mk (Kd.R_below (by (with_reducible repeat (first | apply Kd.R_alloc | apply Kd.R_drewN | apply Kd.R_drew)); exact HO_9.out) hb)
                                    have n1_ := Aside0.mk (Kd.R_below (Kd.R_elderB (by (with_reducible repeat (first | apply Kd.R_alloc | apply Kd.R_drewN | apply Kd.R_drew)); exact HO_10.out) gb523 (Nat.le_of_eq hg.symm)) hb)
                                    have n2_ := Aside0.mk (blk_below (g := gb513) (o := .cells #[.int .i64 ((rd_T74 l3 x25_1).f0), .int .i64 ((rd_T74 l3 x25_1).f1)] 74 (0, 0)) (by (with_reducible repeat (first | refine blk_drewN ?_ _ | refine blk_drew ?_ | refine blk_alloc ?_ _)); exact BK513.out) hb)
                                    have n3_ := Aside0.mk (below_step (by repeat (first | (with_reducible first | exact HB.out | apply below_alloc | apply pw_below_drewN | apply below_drew1 | refine below_set ?_ GE513.out) | exact HB.out)) hb)
                                    have n4_ := Aside0.mk (hbox)
                                    have n5_ := Aside0.mk ((by rw [hg]; exact (below_size (by repeat (first | (with_reducible first | exact HB.out | apply below_alloc | apply pw_below_drewN | apply below_drew1 | refine below_set ?_ GE513.out) | exact HB.out))) : w.heap.size ≤ gb523))
                                    have n6_ := Aside0.mk ((by rw [hg]; exact (below_size (by repeat (first | (with_reducible first | exact HB.out | apply below_alloc | apply pw_below_drewN | apply below_drew1 | refine below_set ?_ GE513.out) | exact HB.out))) : w.heap.size ≤ gb523))
                                    have n7_ := Aside0.mk ((by rw [hg]; exact Nat.ne_of_lt (blk_lt (g := gb513) (o := .cells #[.int .i64 ((rd_T74 l3 x25_1).f0), .int .i64 ((rd_T74 l3 x25_1).f1)] 74 (0, 0)) (by (with_reducible repeat (first | refine blk_drewN ?_ _ | refine blk_drew ?_ | refine blk_alloc ?_ _)); exact BK513.out)) : gb513 ≠ gb523))
                                    have n8_ := Aside0.mk ((by rw [hg]; exact Nat.ne_of_gt (blk_lt (g := gb513) (o := .cells #[.int .i64 ((rd_T74 l3 x25_1).f0), .int .i64 ((rd_T74 l3 x25_1).f1)] 74 (0, 0)) (by (with_reducible repeat (first | refine blk_drewN ?_ _ | refine blk_drew ?_ | refine blk_alloc ?_ _)); exact BK513.out)) : gb523 ≠ gb513))
                                    clear HO_9
                                    clear HO_10
                                    clear BK513
                                    clear HB
                                    have HO_9 := n0_
                                    have HO_10 := n1_
                                    have BK513 := n2_
                                    have HB := n3_
                                    have BK523 := n4_
                                    have GW523 := n5_
                                    have GE523 := n6_
                                    have NB513_523 := n7_
                                    have NB523_513 := n8_
                                    clear n0_ n1_ n2_ n3_ n4_ n5_ n6_ n7_ n8_
                                    clear hb hbox hg
                                    refine hK.out _ _ ⟨(blk_cell BK513.out 0).trans rfl, (blk_cell BK513.out 1).trans rfl, ((HB.out.cell (World.block_lt_of_cell? w _ hw518_0)).trans hw518_0), ((HB.out.cell (World.block_lt_of_cell? w _ hw518_1)).trans hw518_1), ((HB.out.cell (World.block_lt_of_cell? w _ hw518_2)).trans hw518_2), ((HB.out.cell (World.block_lt_of_cell? w _ hw518_3)).trans hw518_3)⟩ (fun hHeld => ?_)
                                    clear hK K
                                    refine norm_ (a' := ?_) ?_ ?_
                                    rotate_left
                                    · show Act.put _ (some 13) _ = _
                                      simp only [Act.put, List.setIfInBounds_toArray, List.set_cons_zero, List.set_cons_succ, i64_w, i32_w]
                                      rfl
                                    exact norm_ (by simp only [putAll, Act.put, List.setIfInBounds_toArray, List.set_cons_zero, List.set_cons_succ]) (hCont (gb523) _ ⟨hHeld, (by (with_reducible repeat (first | apply Kd.R_alloc | apply Kd.R_drewN | apply Kd.R_drew)); exact Kd.R_mono HO_10.out (fun _ hk => hk.2)), (by (with_reducible repeat (first | apply Kd.R_alloc | apply Kd.R_drewN | apply Kd.R_drew)); exact HO_9.out), (by (with_reducible repeat (first | refine blk_drewN ?_ _ | refine blk_drew ?_ | refine blk_alloc ?_ _)); exact BK513.out), (by (with_reducible repeat (first | refine blk_drewN ?_ _ | refine blk_drew ?_ | refine blk_alloc ?_ _)); exact BK523.out), GW523.out, GE523.out, NB513_523.out, NB523_513.out, (by repeat (first | (with_reducible first | exact HB.out | apply below_alloc | apply pw_below_drewN | apply below_drew1 | refine below_set ?_ GE513.out | refine below_set ?_ GE523.out) | exact HB.out))⟩)
                                  · skip
                                    refine box_step ?hg (N := 13) ?hd (cs := #[.int .i64 0, .int .i64 0, .int .i64 0, .int .i64 0]) (t := 24) ?hr ?_; (case hd => rfl); (case hg => rfl); (case hr => first | (go_simp; done) | (go_simp; rfl))
                                    intro gb523 hg w58 hbox hb
                                    have n0_ := Aside0.mk (Kd.R_below (by (with_reducible repeat (first | apply Kd.R_alloc | apply Kd.R_drewN | apply Kd.R_drew)); exact HO_9.out) hb)
                                    have n1_ := Aside0.mk (Kd.R_below (Kd.R_elderB (by (with_reducible repeat (first | apply Kd.R_alloc | apply Kd.R_drewN | apply Kd.R_drew)); exact HO_10.out) gb523 (Nat.le_of_eq hg.symm)) hb)
                                    have n2_ := Aside0.mk (blk_below (g := gb513) (o := .cells #[.int .i64 ((rd_T74 l3 x25_1).f0), .int .i64 ((rd_T74 l3 x25_1).f1)] 74 (0, 0)) (by (with_reducible repeat (first | refine blk_drewN ?_ _ | refine blk_drew ?_ | refine blk_alloc ?_ _)); exact BK513.out) hb)
                                    have n3_ := Aside0.mk (below_step (by repeat (first | (with_reducible first | exact HB.out | apply below_alloc | apply pw_below_drewN | apply below_drew1 | refine below_set ?_ GE513.out) | exact HB.out)) hb)
                                    have n4_ := Aside0.mk (hbox)
                                    have n5_ := Aside0.mk ((by rw [hg]; exact (below_size (by repeat (first | (with_reducible first | exact HB.out | apply below_alloc | apply pw_below_drewN | apply below_drew1 | refine below_set ?_ GE513.out) | exact HB.out))) : w.heap.size ≤ gb523))
                                    have n6_ := Aside0.mk ((by rw [hg]; exact (below_size (by repeat (first | (with_reducible first | exact HB.out | apply below_alloc | apply pw_below_drewN | apply below_drew1 | refine below_set ?_ GE513.out) | exact HB.out))) : w.heap.size ≤ gb523))
                                    have n7_ := Aside0.mk ((by rw [hg]; exact Nat.ne_of_lt (blk_lt (g := gb513) (o := .cells #[.int .i64 ((rd_T74 l3 x25_1).f0), .int .i64 ((rd_T74 l3 x25_1).f1)] 74 (0, 0)) (by (with_reducible repeat (first | refine blk_drewN ?_ _ | refine blk_drew ?_ | refine blk_alloc ?_ _)); exact BK513.out)) : gb513 ≠ gb523))
                                    have n8_ := Aside0.mk ((by rw [hg]; exact Nat.ne_of_gt (blk_lt (g := gb513) (o := .cells #[.int .i64 ((rd_T74 l3 x25_1).f0), .int .i64 ((rd_T74 l3 x25_1).f1)] 74 (0, 0)) (by (with_reducible repeat (first | refine blk_drewN ?_ _ | refine blk_drew ?_ | refine blk_alloc ?_ _)); exact BK513.out)) : gb523 ≠ gb513))
                                    clear HO_9
                                    clear HO_10
                                    clear BK513
                                    clear HB
                                    have HO_9 := n0_
                                    have HO_10 := n1_
                                    have BK513 := n2_
                                    have HB := n3_
                                    have BK523 := n4_
                                    have GW523 := n5_
                                    have GE523 := n6_
                                    have NB513_523 := n7_
                                    have NB523_513 := n8_
                                    clear n0_ n1_ n2_ n3_ n4_ n5_ n6_ n7_ n8_
                                    clear hb hbox hg
                                    refine hK.out _ _ ⟨(blk_cell BK513.out 0).trans rfl, (blk_cell BK513.out 1).trans rfl, ((HB.out.cell (World.block_lt_of_cell? w _ hw518_0)).trans hw518_0), ((HB.out.cell (World.block_lt_of_cell? w _ hw518_1)).trans hw518_1), ((HB.out.cell (World.block_lt_of_cell? w _ hw518_2)).trans hw518_2), ((HB.out.cell (World.block_lt_of_cell? w _ hw518_3)).trans hw518_3)⟩ (fun hHeld => ?_)
                                    clear hK K
                                    refine norm_ (a' := ?_) ?_ ?_
                                    rotate_left
                                    · show Act.put _ (some 13) _ = _
                                      simp only [Act.put, List.setIfInBounds_toArray, List.set_cons_zero, List.set_cons_succ, i64_w, i32_w]
                                      rfl
                                    refine one_ (i := 7) (N := some 60) #[true, true, true, true, true, true, true, true, true, false] rfl rfl (one_of HT_.out (by kernel_rfl)) (by decide) (fun K hK => ?_)
                                    refine goes_ Try.func54 (by kernel_rfl) rfl #[.agg #[.int .i64 ((rd_T24 l0 ((rd_T74 l3 x25_1).f0)).f0), .int .i64 ((rd_T24 l0 ((rd_T74 l3 x25_1).f0)).f1), .int .i64 ((rd_T24 l0 ((rd_T74 l3 x25_1).f0)).f2), .int .i64 ((rd_T24 l0 ((rd_T74 l3 x25_1).f0)).f3)], .int .i64 ((rd_T74 l3 x25_1).f1)] (by rfl) rfl rfl (by (try simp only [List.map_toArray, List.map_cons, List.map_nil]); first | done | rfl | (simp only [List.length_drop, List.length_take]; rfl)) ?_
                                    with_reducible refine (impl_turnTile.calls kj14 ((rd_T24 l0 ((rd_T74 l3 x25_1).f0)).f0) ((rd_T24 l0 ((rd_T74 l3 x25_1).f0)).f1) ((rd_T24 l0 ((rd_T74 l3 x25_1).f0)).f2) ((rd_T24 l0 ((rd_T74 l3 x25_1).f0)).f3) ((rd_T74 l3 x25_1).f1) t519 t520 t521 t522 _ A33.out).mono ?_
                                    rintro e w59 ⟨rfl, hb⟩
                                    refine ⟨_, rfl, ?_⟩
                                    have n0_ := Aside0.mk (Kd.R_below (by (with_reducible repeat (first | apply Kd.R_alloc | apply Kd.R_drewN | apply Kd.R_drew)); exact HO_9.out) hb)
                                    have n1_ := Aside0.mk (Kd.R_below (by (with_reducible repeat (first | apply Kd.R_alloc | apply Kd.R_drewN | apply Kd.R_drew)); exact HO_10.out) hb)
                                    have n2_ := Aside0.mk (blk_below (g := gb513) (o := .cells #[.int .i64 ((rd_T74 l3 x25_1).f0), .int .i64 ((rd_T74 l3 x25_1).f1)] 74 (0, 0)) (by (with_reducible repeat (first | refine blk_drewN ?_ _ | refine blk_drew ?_ | refine blk_alloc ?_ _)); exact BK513.out) hb)
                                    have n3_ := Aside0.mk (blk_below (g := gb523) (o := .cells #[.int .i64 0, .int .i64 0, .int .i64 0, .int .i64 0] 24 (0, 0)) (by (with_reducible repeat (first | refine blk_drewN ?_ _ | refine blk_drew ?_ | refine blk_alloc ?_ _)); exact BK523.out) hb)
                                    have n4_ := Aside0.mk (below_step (by repeat (first | (with_reducible first | exact HB.out | apply below_alloc | apply pw_below_drewN | apply below_drew1 | refine below_set ?_ GE513.out | refine below_set ?_ GE523.out) | exact HB.out)) hb)
                                    clear HO_9
                                    clear HO_10
                                    clear BK513
                                    clear BK523
                                    clear HB
                                    have HO_9 := n0_
                                    have HO_10 := n1_
                                    have BK513 := n2_
                                    have BK523 := n3_
                                    have HB := n4_
                                    clear n0_ n1_ n2_ n3_ n4_
                                    (try clear hb)
                                    (try clear hb2)
                                    (try clear hk)
                                    (try clear hi)
                                    refine hK.out _ _ ⟨(blk_cell BK513.out 0).trans rfl, (blk_cell BK513.out 1).trans rfl, ((HB.out.cell (World.block_lt_of_cell? w _ hw518_0)).trans hw518_0), ((HB.out.cell (World.block_lt_of_cell? w _ hw518_1)).trans hw518_1), ((HB.out.cell (World.block_lt_of_cell? w _ hw518_2)).trans hw518_2), ((HB.out.cell (World.block_lt_of_cell? w _ hw518_3)).trans hw518_3)⟩ (fun hHeld => ?_)
                                    clear hK K
                                    refine norm_ (a' := ?_) ?_ ?_
                                    rotate_left
                                    · show Act.put _ (some 60) _ = _
                                      simp only [Act.put, List.setIfInBounds_toArray, List.set_cons_zero, List.set_cons_succ, i64_w, i32_w]
                                      rfl
                                    exact norm_ (by simp only [putAll, Act.put, List.setIfInBounds_toArray, List.set_cons_zero, List.set_cons_succ]) (hCont (gb523) _ ⟨hHeld, (by (with_reducible repeat (first | apply Kd.R_alloc | apply Kd.R_drewN | apply Kd.R_drew)); exact Kd.R_mono HO_10.out (fun _ hk => hk.2)), (by (with_reducible repeat (first | apply Kd.R_alloc | apply Kd.R_drewN | apply Kd.R_drew)); exact HO_9.out), (by (with_reducible repeat (first | refine blk_drewN ?_ _ | refine blk_drew ?_ | refine blk_alloc ?_ _)); exact BK513.out), (by (with_reducible repeat (first | refine blk_drewN ?_ _ | refine blk_drew ?_ | refine blk_alloc ?_ _)); exact BK523.out), GW523.out, GE523.out, NB513_523.out, NB523_513.out, (by repeat (first | (with_reducible first | exact HB.out | apply below_alloc | apply pw_below_drewN | apply below_drew1 | refine below_set ?_ GE513.out | refine below_set ?_ GE523.out) | exact HB.out))⟩)
                                rintro gb523 w60 ⟨hS_, h0_, h1_, h2_, h3_, h4_, h5_, h6_, h7_, h8_⟩
                                have n0_ : Aside0 (Kd.R k24 24 w60 w.heap.size (fun k_ => k_ ≠ gb523) u10 x10_1) := ⟨h0_⟩
                                have n1_ : Aside0 (Kd.R Kd.bool 4 w60 w.heap.size (fun _ => True) (.slice (some ⟨go31, 0, none⟩) x9_1.length co31) y517) := ⟨h1_⟩
                                have n2_ : Aside0 (w60.heap[gb513]? = some (.cells #[.int .i64 ((rd_T74 l3 x25_1).f0), .int .i64 ((rd_T74 l3 x25_1).f1)] 74 (0, 0))) := ⟨h2_⟩
                                have n3_ : Aside0 (w60.heap[gb523]? = some (.cells #[.int .i64 0, .int .i64 0, .int .i64 0, .int .i64 0] 24 (0, 0))) := ⟨h3_⟩
                                have n4_ : Aside0 (w.heap.size ≤ gb523) := ⟨h4_⟩
                                have n5_ : Aside0 (w.heap.size ≤ gb523) := ⟨h5_⟩
                                have n6_ : Aside0 (gb513 ≠ gb523) := ⟨h6_⟩
                                have n7_ : Aside0 (gb523 ≠ gb513) := ⟨h7_⟩
                                have n8_ : Aside0 (Below w.heap.size w w60) := ⟨h8_⟩
                                clear HO_9
                                clear HO_10
                                clear BK513
                                clear HB
                                clear h0_ h1_ h2_ h3_ h4_ h5_ h6_ h7_ h8_
                                have HO_10 := n0_
                                have HO_9 := n1_
                                have BK513 := n2_
                                have BK523 := n3_
                                have GW523 := n4_
                                have GE523 := n5_
                                have NB513_523 := n6_
                                have NB523_513 := n7_
                                have HB := n8_
                                clear n0_ n1_ n2_ n3_ n4_ n5_ n6_ n7_ n8_
                                have hHeld : w60.cell? ⟨gb513, 0, none⟩ = some (.int .i64 ((rd_T74 l3 x25_1).f0)) ∧ w60.cell? ⟨gb513, 1, none⟩ = some (.int .i64 ((rd_T74 l3 x25_1).f1)) ∧ w60.cell? (ad518.add ((((rd_T74 l3 x25_1).f0)).toNat * 4)) = some (.int .i64 ((rd_T24 l0 ((rd_T74 l3 x25_1).f0)).f0)) ∧ w60.cell? ⟨(ad518.add ((((rd_T74 l3 x25_1).f0)).toNat * 4)).block, (ad518.add ((((rd_T74 l3 x25_1).f0)).toNat * 4)).off + 1, none⟩ = some (.int .i64 ((rd_T24 l0 ((rd_T74 l3 x25_1).f0)).f1)) ∧ w60.cell? ⟨(ad518.add ((((rd_T74 l3 x25_1).f0)).toNat * 4)).block, (ad518.add ((((rd_T74 l3 x25_1).f0)).toNat * 4)).off + 2, none⟩ = some (.int .i64 ((rd_T24 l0 ((rd_T74 l3 x25_1).f0)).f2)) ∧ w60.cell? ⟨(ad518.add ((((rd_T74 l3 x25_1).f0)).toNat * 4)).block, (ad518.add ((((rd_T74 l3 x25_1).f0)).toNat * 4)).off + 3, none⟩ = some (.int .i64 ((rd_T24 l0 ((rd_T74 l3 x25_1).f0)).f3)) := hS_
                                refine norm_ (a' := ?_) ?_ ?_
                                rotate_left
                                · simp only [putAll, Act.put, List.setIfInBounds_toArray, List.set_cons_zero, List.set_cons_succ]
                                  rfl
                                refine one_ (i := 9) (N := none) #[true, true, true, true, true, true, true, true, true, true] rfl rfl (one_of HT_.out (by kernel_rfl)) (by decide) (fun K hK => ?_)
                                have hs61 : w60.cell? ⟨gb523, 0, none⟩ = some (.int .i64 0) := (blk_cell BK523.out 0).trans rfl
                                have hfs61 := blk_frozen BK523.out 0
                                have hns61_0 := NB513_523.out
                                have hms61_0 := NB523_513.out
                                have hs62 : w60.cell? ⟨gb523, 1, none⟩ = some (.int .i64 0) := (blk_cell BK523.out 1).trans rfl
                                have hfs62 := blk_frozen BK523.out 1
                                have hns62_0 := NB513_523.out
                                have hms62_0 := NB523_513.out
                                have hs63 : w60.cell? ⟨gb523, 2, none⟩ = some (.int .i64 0) := (blk_cell BK523.out 2).trans rfl
                                have hfs63 := blk_frozen BK523.out 2
                                have hns63_0 := NB513_523.out
                                have hms63_0 := NB523_513.out
                                have hs64 : w60.cell? ⟨gb523, 3, none⟩ = some (.int .i64 0) := (blk_cell BK523.out 3).trans rfl
                                have hfs64 := blk_frozen BK523.out 3
                                have hns64_0 := NB513_523.out
                                have hms64_0 := NB523_513.out
                                refine skip_ (w1 := ?_) (by rfl) rfl ?_ ?_
                                rotate_left
                                · go_simp
                                  rfl
                                refine hK.out _ _ ⟨((cell_far (p := ⟨gb523, _, none⟩) NB513_523.out _).trans (((cell_far (p := ⟨gb523, _, none⟩) NB513_523.out _).trans (((cell_far (p := ⟨gb523, _, none⟩) NB513_523.out _).trans (((cell_far (p := ⟨gb523, _, none⟩) NB513_523.out _).trans (hHeld.1)))))))), ((cell_far (p := ⟨gb523, _, none⟩) NB513_523.out _).trans (((cell_far (p := ⟨gb523, _, none⟩) NB513_523.out _).trans (((cell_far (p := ⟨gb523, _, none⟩) NB513_523.out _).trans (((cell_far (p := ⟨gb523, _, none⟩) NB513_523.out _).trans (hHeld.2.1)))))))), ((cell_far (p := ⟨gb523, _, none⟩) (by first | exact Nat.ne_of_lt (Nat.lt_of_lt_of_le (by have := World.block_lt_of_cell? _ _ hw518_0; first | rwa [add_block] at this | exact this) GW523.out) | (rw [add_block]; exact Nat.ne_of_lt (Nat.lt_of_lt_of_le (by have := World.block_lt_of_cell? _ _ hw518_0; first | rwa [add_block] at this | exact this) GW523.out)) | (show (Addr.add _ _).block ≠ _; rw [add_block]; exact Nat.ne_of_lt (Nat.lt_of_lt_of_le (by have := World.block_lt_of_cell? _ _ hw518_0; first | rwa [add_block] at this | exact this) GW523.out)) | (dsimp only; exact Nat.ne_of_lt (Nat.lt_of_lt_of_le (by have := World.block_lt_of_cell? _ _ hw518_0; first | rwa [add_block] at this | exact this) GW523.out))) _).trans (((cell_far (p := ⟨gb523, _, none⟩) (by first | exact Nat.ne_of_lt (Nat.lt_of_lt_of_le (by have := World.block_lt_of_cell? _ _ hw518_0; first | rwa [add_block] at this | exact this) GW523.out) | (rw [add_block]; exact Nat.ne_of_lt (Nat.lt_of_lt_of_le (by have := World.block_lt_of_cell? _ _ hw518_0; first | rwa [add_block] at this | exact this) GW523.out)) | (show (Addr.add _ _).block ≠ _; rw [add_block]; exact Nat.ne_of_lt (Nat.lt_of_lt_of_le (by have := World.block_lt_of_cell? _ _ hw518_0; first | rwa [add_block] at this | exact this) GW523.out)) | (dsimp only; exact Nat.ne_of_lt (Nat.lt_of_lt_of_le (by have := World.block_lt_of_cell? _ _ hw518_0; first | rwa [add_block] at this | exact this) GW523.out))) _).trans (((cell_far (p := ⟨gb523, _, none⟩) (by first | exact Nat.ne_of_lt (Nat.lt_of_lt_of_le (by have := World.block_lt_of_cell? _ _ hw518_0; first | rwa [add_block] at this | exact this) GW523.out) | (rw [add_block]; exact Nat.ne_of_lt (Nat.lt_of_lt_of_le (by have := World.block_lt_of_cell? _ _ hw518_0; first | rwa [add_block] at this | exact this) GW523.out)) | (show (Addr.add _ _).block ≠ _; rw [add_block]; exact Nat.ne_of_lt (Nat.lt_of_lt_of_le (by have := World.block_lt_of_cell? _ _ hw518_0; first | rwa [add_block] at this | exact this) GW523.out)) | (dsimp only; exact Nat.ne_of_lt (Nat.lt_of_lt_of_le (by have := World.block_lt_of_cell? _ _ hw518_0; first | rwa [add_block] at this | exact this) GW523.out))) _).trans (((cell_far (p := ⟨gb523, _, none⟩) (by first | exact Nat.ne_of_lt (Nat.lt_of_lt_of_le (by have := World.block_lt_of_cell? _ _ hw518_0; first | rwa [add_block] at this | exact this) GW523.out) | (rw [add_block]; exact Nat.ne_of_lt (Nat.lt_of_lt_of_le (by have := World.block_lt_of_cell? _ _ hw518_0; first | rwa [add_block] at this | exact this) GW523.out)) | (show (Addr.add _ _).block ≠ _; rw [add_block]; exact Nat.ne_of_lt (Nat.lt_of_lt_of_le (by have := World.block_lt_of_cell? _ _ hw518_0; first | rwa [add_block] at this | exact this) GW523.out)) | (dsimp only; exact Nat.ne_of_lt (Nat.lt_of_lt_of_le (by have := World.block_lt_of_cell? _ _ hw518_0; first | rwa [add_block] at this | exact this) GW523.out))) _).trans (hHeld.2.2.1)))))))), ((cell_far (p := ⟨gb523, _, none⟩) (by first | exact Nat.ne_of_lt (Nat.lt_of_lt_of_le (by have := World.block_lt_of_cell? _ _ hw518_1; first | rwa [add_block] at this | exact this) GW523.out) | (rw [add_block]; exact Nat.ne_of_lt (Nat.lt_of_lt_of_le (by have := World.block_lt_of_cell? _ _ hw518_1; first | rwa [add_block] at this | exact this) GW523.out)) | (show (Addr.add _ _).block ≠ _; rw [add_block]; exact Nat.ne_of_lt (Nat.lt_of_lt_of_le (by have := World.block_lt_of_cell? _ _ hw518_1; first | rwa [add_block] at this | exact this) GW523.out)) | (dsimp only; exact Nat.ne_of_lt (Nat.lt_of_lt_of_le (by have := World.block_lt_of_cell? _ _ hw518_1; first | rwa [add_block] at this | exact this) GW523.out))) _).trans (((cell_far (p := ⟨gb523, _, none⟩) (by first | exact Nat.ne_of_lt (Nat.lt_of_lt_of_le (by have := World.block_lt_of_cell? _ _ hw518_1; first | rwa [add_block] at this | exact this) GW523.out) | (rw [add_block]; exact Nat.ne_of_lt (Nat.lt_of_lt_of_le (by have := World.block_lt_of_cell? _ _ hw518_1; first | rwa [add_block] at this | exact this) GW523.out)) | (show (Addr.add _ _).block ≠ _; rw [add_block]; exact Nat.ne_of_lt (Nat.lt_of_lt_of_le (by have := World.block_lt_of_cell? _ _ hw518_1; first | rwa [add_block] at this | exact this) GW523.out)) | (dsimp only; exact Nat.ne_of_lt (Nat.lt_of_lt_of_le (by have := World.block_lt_of_cell? _ _ hw518_1; first | rwa [add_block] at this | exact this) GW523.out))) _).trans (((cell_far (p := ⟨gb523, _, none⟩) (by first | exact Nat.ne_of_lt (Nat.lt_of_lt_of_le (by have := World.block_lt_of_cell? _ _ hw518_1; first | rwa [add_block] at this | exact this) GW523.out) | (rw [add_block]; exact Nat.ne_of_lt (Nat.lt_of_lt_of_le (by have := World.block_lt_of_cell? _ _ hw518_1; first | rwa [add_block] at this | exact this) GW523.out)) | (show (Addr.add _ _).block ≠ _; rw [add_block]; exact Nat.ne_of_lt (Nat.lt_of_lt_of_le (by have := World.block_lt_of_cell? _ _ hw518_1; first | rwa [add_block] at this | exact this) GW523.out)) | (dsimp only; exact Nat.ne_of_lt (Nat.lt_of_lt_of_le (by have := World.block_lt_of_cell? _ _ hw518_1; first | rwa [add_block] at this | exact this) GW523.out))) _).trans (((cell_far (p := ⟨gb523, _, none⟩) (by first | exact Nat.ne_of_lt (Nat.lt_of_lt_of_le (by have := World.block_lt_of_cell? _ _ hw518_1; first | rwa [add_block] at this | exact this) GW523.out) | (rw [add_block]; exact Nat.ne_of_lt (Nat.lt_of_lt_of_le (by have := World.block_lt_of_cell? _ _ hw518_1; first | rwa [add_block] at this | exact this) GW523.out)) | (show (Addr.add _ _).block ≠ _; rw [add_block]; exact Nat.ne_of_lt (Nat.lt_of_lt_of_le (by have := World.block_lt_of_cell? _ _ hw518_1; first | rwa [add_block] at this | exact this) GW523.out)) | (dsimp only; exact Nat.ne_of_lt (Nat.lt_of_lt_of_le (by have := World.block_lt_of_cell? _ _ hw518_1; first | rwa [add_block] at this | exact this) GW523.out))) _).trans (hHeld.2.2.2.1)))))))), ((cell_far (p := ⟨gb523, _, none⟩) (by first | exact Nat.ne_of_lt (Nat.lt_of_lt_of_le (by have := World.block_lt_of_cell? _ _ hw518_2; first | rwa [add_block] at this | exact this) GW523.out) | (rw [add_block]; exact Nat.ne_of_lt (Nat.lt_of_lt_of_le (by have := World.block_lt_of_cell? _ _ hw518_2; first | rwa [add_block] at this | exact this) GW523.out)) | (show (Addr.add _ _).block ≠ _; rw [add_block]; exact Nat.ne_of_lt (Nat.lt_of_lt_of_le (by have := World.block_lt_of_cell? _ _ hw518_2; first | rwa [add_block] at this | exact this) GW523.out)) | (dsimp only; exact Nat.ne_of_lt (Nat.lt_of_lt_of_le (by have := World.block_lt_of_cell? _ _ hw518_2; first | rwa [add_block] at this | exact this) GW523.out))) _).trans (((cell_far (p := ⟨gb523, _, none⟩) (by first | exact Nat.ne_of_lt (Nat.lt_of_lt_of_le (by have := World.block_lt_of_cell? _ _ hw518_2; first | rwa [add_block] at this | exact this) GW523.out) | (rw [add_block]; exact Nat.ne_of_lt (Nat.lt_of_lt_of_le (by have := World.block_lt_of_cell? _ _ hw518_2; first | rwa [add_block] at this | exact this) GW523.out)) | (show (Addr.add _ _).block ≠ _; rw [add_block]; exact Nat.ne_of_lt (Nat.lt_of_lt_of_le (by have := World.block_lt_of_cell? _ _ hw518_2; first | rwa [add_block] at this | exact this) GW523.out)) | (dsimp only; exact Nat.ne_of_lt (Nat.lt_of_lt_of_le (by have := World.block_lt_of_cell? _ _ hw518_2; first | rwa [add_block] at this | exact this) GW523.out))) _).trans (((cell_far (p := ⟨gb523, _, none⟩) (by first | exact Nat.ne_of_lt (Nat.lt_of_lt_of_le (by have := World.block_lt_of_cell? _ _ hw518_2; first | rwa [add_block] at this | exact this) GW523.out) | (rw [add_block]; exact Nat.ne_of_lt (Nat.lt_of_lt_of_le (by have := World.block_lt_of_cell? _ _ hw518_2; first | rwa [add_block] at this | exact this) GW523.out)) | (show (Addr.add _ _).block ≠ _; rw [add_block]; exact Nat.ne_of_lt (Nat.lt_of_lt_of_le (by have := World.block_lt_of_cell? _ _ hw518_2; first | rwa [add_block] at this | exact this) GW523.out)) | (dsimp only; exact Nat.ne_of_lt (Nat.lt_of_lt_of_le (by have := World.block_lt_of_cell? _ _ hw518_2; first | rwa [add_block] at this | exact this) GW523.out))) _).trans (((cell_far (p := ⟨gb523, _, none⟩) (by first | exact Nat.ne_of_lt (Nat.lt_of_lt_of_le (by have := World.block_lt_of_cell? _ _ hw518_2; first | rwa [add_block] at this | exact this) GW523.out) | (rw [add_block]; exact Nat.ne_of_lt (Nat.lt_of_lt_of_le (by have := World.block_lt_of_cell? _ _ hw518_2; first | rwa [add_block] at this | exact this) GW523.out)) | (show (Addr.add _ _).block ≠ _; rw [add_block]; exact Nat.ne_of_lt (Nat.lt_of_lt_of_le (by have := World.block_lt_of_cell? _ _ hw518_2; first | rwa [add_block] at this | exact this) GW523.out)) | (dsimp only; exact Nat.ne_of_lt (Nat.lt_of_lt_of_le (by have := World.block_lt_of_cell? _ _ hw518_2; first | rwa [add_block] at this | exact this) GW523.out))) _).trans (hHeld.2.2.2.2.1)))))))), ((cell_far (p := ⟨gb523, _, none⟩) (by first | exact Nat.ne_of_lt (Nat.lt_of_lt_of_le (by have := World.block_lt_of_cell? _ _ hw518_3; first | rwa [add_block] at this | exact this) GW523.out) | (rw [add_block]; exact Nat.ne_of_lt (Nat.lt_of_lt_of_le (by have := World.block_lt_of_cell? _ _ hw518_3; first | rwa [add_block] at this | exact this) GW523.out)) | (show (Addr.add _ _).block ≠ _; rw [add_block]; exact Nat.ne_of_lt (Nat.lt_of_lt_of_le (by have := World.block_lt_of_cell? _ _ hw518_3; first | rwa [add_block] at this | exact this) GW523.out)) | (dsimp only; exact Nat.ne_of_lt (Nat.lt_of_lt_of_le (by have := World.block_lt_of_cell? _ _ hw518_3; first | rwa [add_block] at this | exact this) GW523.out))) _).trans (((cell_far (p := ⟨gb523, _, none⟩) (by first | exact Nat.ne_of_lt (Nat.lt_of_lt_of_le (by have := World.block_lt_of_cell? _ _ hw518_3; first | rwa [add_block] at this | exact this) GW523.out) | (rw [add_block]; exact Nat.ne_of_lt (Nat.lt_of_lt_of_le (by have := World.block_lt_of_cell? _ _ hw518_3; first | rwa [add_block] at this | exact this) GW523.out)) | (show (Addr.add _ _).block ≠ _; rw [add_block]; exact Nat.ne_of_lt (Nat.lt_of_lt_of_le (by have := World.block_lt_of_cell? _ _ hw518_3; first | rwa [add_block] at this | exact this) GW523.out)) | (dsimp only; exact Nat.ne_of_lt (Nat.lt_of_lt_of_le (by have := World.block_lt_of_cell? _ _ hw518_3; first | rwa [add_block] at this | exact this) GW523.out))) _).trans (((cell_far (p := ⟨gb523, _, none⟩) (by first | exact Nat.ne_of_lt (Nat.lt_of_lt_of_le (by have := World.block_lt_of_cell? _ _ hw518_3; first | rwa [add_block] at this | exact this) GW523.out) | (rw [add_block]; exact Nat.ne_of_lt (Nat.lt_of_lt_of_le (by have := World.block_lt_of_cell? _ _ hw518_3; first | rwa [add_block] at this | exact this) GW523.out)) | (show (Addr.add _ _).block ≠ _; rw [add_block]; exact Nat.ne_of_lt (Nat.lt_of_lt_of_le (by have := World.block_lt_of_cell? _ _ hw518_3; first | rwa [add_block] at this | exact this) GW523.out)) | (dsimp only; exact Nat.ne_of_lt (Nat.lt_of_lt_of_le (by have := World.block_lt_of_cell? _ _ hw518_3; first | rwa [add_block] at this | exact this) GW523.out))) _).trans (((cell_far (p := ⟨gb523, _, none⟩) (by first | exact Nat.ne_of_lt (Nat.lt_of_lt_of_le (by have := World.block_lt_of_cell? _ _ hw518_3; first | rwa [add_block] at this | exact this) GW523.out) | (rw [add_block]; exact Nat.ne_of_lt (Nat.lt_of_lt_of_le (by have := World.block_lt_of_cell? _ _ hw518_3; first | rwa [add_block] at this | exact this) GW523.out)) | (show (Addr.add _ _).block ≠ _; rw [add_block]; exact Nat.ne_of_lt (Nat.lt_of_lt_of_le (by have := World.block_lt_of_cell? _ _ hw518_3; first | rwa [add_block] at this | exact this) GW523.out)) | (dsimp only; exact Nat.ne_of_lt (Nat.lt_of_lt_of_le (by have := World.block_lt_of_cell? _ _ hw518_3; first | rwa [add_block] at this | exact this) GW523.out))) _).trans (hHeld.2.2.2.2.2))))))))⟩ (fun hHeld => ?_)
                                clear hK K
                                refine done_ (done_of HT_.out (by kernel_rfl)) ?_
                                have hnb65 := NB523_513.out
                                have hnc65 := NB513_523.out
                                have hcz66_0 : w60.cell? ⟨gb523, 0, none⟩ = some (.int .i64 0) := (blk_cell BK523.out 0).trans rfl
                                have hcz66_1 : w60.cell? ⟨gb523, 1, none⟩ = some (.int .i64 0) := (blk_cell BK523.out 1).trans rfl
                                have hcz66_2 : w60.cell? ⟨gb523, 2, none⟩ = some (.int .i64 0) := (blk_cell BK523.out 2).trans rfl
                                have hcz66_3 : w60.cell? ⟨gb523, 3, none⟩ = some (.int .i64 0) := (blk_cell BK523.out 3).trans rfl
                                have hfz66_0 := blk_frozen BK523.out 0
                                have hfz66_1 := blk_frozen BK523.out 1
                                have hfz66_2 := blk_frozen BK523.out 2
                                have hfz66_3 := blk_frozen BK523.out 3
                                obtain ⟨Ao67, co67, eo67⟩ := Kd.R_slice HO_10.out
                                subst eo67
                                try go_wp2_with (first | ((with_reducible refine gate_callee (f := 77) rfl ?_); refine goesL_ (some 65) rfl rfl Try.func77 (by kernel_rfl) rfl #[.agg #[.int .i64 t519, .int .i64 t520, .int .i64 t521, .int .i64 t522], .slice Ao67 x10_1.length co67, .int .i64 a1, .int .i64 a2] rfl (by (try simp only [List.map_toArray, List.map_cons, List.map_nil]); first | done | rfl | (simp only [List.length_drop, List.length_take]; rfl)) ?_; (with_reducible refine (impl_fits.calls kj14 t519 t520 t521 t522 _ _ x10_1 a1 a2 false _ ?side1 ?side2 A34.out).mono ?_); (case side1 => refine (Kd.R_reads' (e := 24) (base := w.heap.size) (ok := fun k_ => k_ ≠ gb523) (n := x10_1.length) (c := co67) ?_).2.2; exact (by (with_reducible repeat (first | apply Kd.R_alloc | apply Kd.R_drewN | apply Kd.R_drew)); exact (Kd.R_mono (Kd.R_far (p := ⟨gb523, 3, none⟩) (Kd.R_far (p := ⟨gb523, 2, none⟩) (Kd.R_far (p := ⟨gb523, 1, none⟩) (Kd.R_far (p := ⟨gb523, 0, none⟩) (Kd.R_mono HO_10.out (fun k_ hk => (⟨hk, hk⟩ : _ ∧ k_ ≠ gb523))) (fun _ hk => hk.2) (.int .i64 t519)) (fun _ hk => hk.2) (.int .i64 t520)) (fun _ hk => hk.2) (.int .i64 t521)) (fun _ hk => hk.2) (.int .i64 t522)) (fun _ h_ => h_.1)))); (case side2 => exact (Kd.R_reads' HO_10.out).2.1); rintro e w68 ⟨rfl, hb⟩; refine ⟨_, rfl, ?_⟩; have n0_ := Aside0.mk (Kd.R_below (by (with_reducible repeat (first | apply Kd.R_alloc | apply Kd.R_drewN | apply Kd.R_drew)); exact (Kd.R_mono (Kd.R_far (p := ⟨gb523, 3, none⟩) (Kd.R_far (p := ⟨gb523, 2, none⟩) (Kd.R_far (p := ⟨gb523, 1, none⟩) (Kd.R_far (p := ⟨gb523, 0, none⟩) (Kd.R_types HO_9.out BK523.out (by decide)) (fun _ hk => hk.2) (.int .i64 t519)) (fun _ hk => hk.2) (.int .i64 t520)) (fun _ hk => hk.2) (.int .i64 t521)) (fun _ hk => hk.2) (.int .i64 t522)) (fun _ h_ => h_.1))) hb); have n1_ := Aside0.mk (Kd.R_below (by (with_reducible repeat (first | apply Kd.R_alloc | apply Kd.R_drewN | apply Kd.R_drew)); exact (Kd.R_mono (Kd.R_far (p := ⟨gb523, 3, none⟩) (Kd.R_far (p := ⟨gb523, 2, none⟩) (Kd.R_far (p := ⟨gb523, 1, none⟩) (Kd.R_far (p := ⟨gb523, 0, none⟩) (Kd.R_mono HO_10.out (fun k_ hk => (⟨hk, hk⟩ : _ ∧ k_ ≠ gb523))) (fun _ hk => hk.2) (.int .i64 t519)) (fun _ hk => hk.2) (.int .i64 t520)) (fun _ hk => hk.2) (.int .i64 t521)) (fun _ hk => hk.2) (.int .i64 t522)) (fun _ h_ => h_.1))) hb); have n2_ := Aside0.mk (blk_below (g := gb513) (o := .cells #[.int .i64 ((rd_T74 l3 x25_1).f0), .int .i64 ((rd_T74 l3 x25_1).f1)] 74 (0, 0)) (by (with_reducible repeat (first | refine blk_drewN ?_ _ | refine blk_drew ?_ | refine blk_alloc ?_ _)); refine blk_far ?_ NB513_523.out _; (with_reducible repeat (first | refine blk_drewN ?_ _ | refine blk_drew ?_ | refine blk_alloc ?_ _)); refine blk_far ?_ NB513_523.out _; (with_reducible repeat (first | refine blk_drewN ?_ _ | refine blk_drew ?_ | refine blk_alloc ?_ _)); refine blk_far ?_ NB513_523.out _; (with_reducible repeat (first | refine blk_drewN ?_ _ | refine blk_drew ?_ | refine blk_alloc ?_ _)); refine blk_far ?_ NB513_523.out _; (with_reducible repeat (first | refine blk_drewN ?_ _ | refine blk_drew ?_ | refine blk_alloc ?_ _)); exact BK513.out) hb); have n3_ := Aside0.mk (blk_below (g := gb523) (o := .cells #[.int .i64 t519, .int .i64 t520, .int .i64 t521, .int .i64 t522] 24 (0, 0)) (by (with_reducible repeat (first | refine blk_drewN ?_ _ | refine blk_drew ?_ | refine blk_alloc ?_ _)); refine blk_put (cs := #[.int .i64 t519, .int .i64 t520, .int .i64 t521, .int .i64 0]) ?_ 3 _ rfl; (with_reducible repeat (first | refine blk_drewN ?_ _ | refine blk_drew ?_ | refine blk_alloc ?_ _)); refine blk_put (cs := #[.int .i64 t519, .int .i64 t520, .int .i64 0, .int .i64 0]) ?_ 2 _ rfl; (with_reducible repeat (first | refine blk_drewN ?_ _ | refine blk_drew ?_ | refine blk_alloc ?_ _)); refine blk_put (cs := #[.int .i64 t519, .int .i64 0, .int .i64 0, .int .i64 0]) ?_ 1 _ rfl; (with_reducible repeat (first | refine blk_drewN ?_ _ | refine blk_drew ?_ | refine blk_alloc ?_ _)); refine blk_put (cs := #[.int .i64 0, .int .i64 0, .int .i64 0, .int .i64 0]) ?_ 0 _ rfl; (with_reducible repeat (first | refine blk_drewN ?_ _ | refine blk_drew ?_ | refine blk_alloc ?_ _)); exact BK523.out) hb); have n4_ := Aside0.mk (below_step (by repeat (first | (with_reducible first | exact HB.out | apply below_alloc | apply pw_below_drewN | apply below_drew1 | refine below_set ?_ GE513.out | refine below_set ?_ GE523.out) | exact HB.out)) hb); clear HO_9; clear HO_10; clear BK513; clear BK523; clear HB; have HO_9 := n0_; have HO_10 := n1_; have BK513 := n2_; have BK523 := n3_; have HB := n4_; clear n0_ n1_ n2_ n3_ n4_; (try clear hb); (try clear hb2); (try clear hk); (try clear hi)))
                                go_ret
                                exact ⟨by first | rfl | (simp [errW_none, errW_some] <;> rfl) | (simp [*, errW_none, errW_some] <;> rfl), by repeat (first | (with_reducible first | exact HB.out | apply below_alloc | apply pw_below_drewN | apply below_drew1 | refine below_set ?_ GE513.out | refine below_set ?_ GE523.out) | exact HB.out)⟩
                            · rw [if_neg c32] at H
                              exact absurd H (by simp)
                          · rw [if_neg c30] at H
                            exact absurd H (by simp)
                        · rw [if_neg c29] at H
                          exact absurd H (by simp)
                · rw [if_neg c14] at H
                  exact absurd H (by simp)
              · rw [if_neg c13] at H
                exact absurd H (by simp)
            · rw [if_neg c12] at H
              have c12b0 : decide (x25_1 < (l3.length : Int)) = false := decide_eq_false c12
              clear c12
              obtain rfl := Option.some.inj H
              go_wp2
              go_ret
              exact ⟨by first | rfl | (simp [errW_none, errW_some] <;> rfl) | (simp [*, errW_none, errW_some] <;> rfl), by repeat (first | (with_reducible first | exact HB.out | apply below_alloc | apply pw_below_drewN | apply below_drew1) | exact HB.out)⟩
      · rw [if_neg c7] at H
        exact absurd H (by simp)
    · rw [if_neg c6] at H
      exact absurd H (by simp)
  · rw [if_neg c5] at H
    have c5b0 : ((l3.length : Int) == (l0.length : Int)) = false := beq_eq_false_iff_ne.mpr c5
    have c5b1 : ((l3.length : Int) != (l0.length : Int)) = true := bne_iff_ne.mpr c5
    have c5b2 : (l3.length == l0.length) = false := by first | simpa using c5 | (simp at c5 ⊢; omega)
    obtain rfl := Option.some.inj H
    go_enter Try.func64, Try.ntmps64
    go_wp2
    go_ret
    exact ⟨by first | rfl | (simp [errW_none, errW_some] <;> rfl) | (simp [*, errW_none, errW_some] <;> rfl), by repeat (first | (with_reducible first | exact HB.out | apply below_alloc | apply pw_below_drewN | apply below_drew1) | exact HB.out)⟩

end Go.Proofs.Ytgcagmmghckbbaa.A

namespace Go.Proofs.Ytgcagmmghckbbaa.A
open Go.RowKit Go.Proofs.YtgcagmmghckbbaaW.PrintWords Go.Proofs.YtgcagmmghckbbaaW.PrintLast Go.Proofs.YtgcagmmghckbbaaW.PrintMore
attribute [local go_sem] max2_int min2_int max_two min_two max_three min_three max_four min_four   -- for this text's walks alone
set_option linter.unusedVariables false
set_option linter.unusedSimpArgs false

def impl_IsCorrectLayout.f (k : Nat) (l0 : List (S24)) (a1 : Int) (a2 : Int) (l3 : List (S74)) : Option (Bool) := (impl_jigsawCode.f k l0 a1 a2).bind fun t528 => (if t528 = 0 then ((impl_isCorrect.f k l0 a1 a2 l3).bind fun t529 => (some t529)) else (some false))
set_option maxHeartbeats 8000000 in
set_option maxRecDepth 100000 in
theorem impl_IsCorrectLayout.calls (k : Nat) (A0 : Option Addr) (c0 : Nat) (l0 : List (S24)) (a1 : Int) (a2 : Int) (A3 : Option Addr) (c3 : Nat) (l3 : List (S74)) (r : Bool) (w : World) (hr0 : Kd.C k24 w A0 l0.length l0) (hc0 : l0.length ≤ c0) (hr3 : Kd.C k74 w A3 l3.length l3) (hc3 : l3.length ≤ c3) (h : impl_IsCorrectLayout.f k l0 a1 a2 l3 = some r) :
    Calls Try.prog 35 #[.slice A0 l0.length c0, .int .i64 a1, .int .i64 a2, .slice A3 l3.length c3] w fun e w' => e = .returned (.bool r) ∧ Below w.heap.size w w' := by
  have HR0 := Aside0.mk hr0
  have HC0 := Aside0.mk hc0
  clear hr0 hc0
  have HR3 := Aside0.mk hr3
  have HC3 := Aside0.mk hc3
  clear hr3 hc3
  have HB := Aside0.mk (Below.refl w.heap.size w)
  have H : ((impl_jigsawCode.f k l0 a1 a2).bind fun t528 => (if t528 = 0 then ((impl_isCorrect.f k l0 a1 a2 l3).bind fun t529 => (some t529)) else (some false))) = some r := h
  clear h
  replace H := Option.bind_eq_some_iff.mp H
  obtain ⟨t528, A50, H⟩ := H
  replace H : (if t528 = 0 then ((impl_isCorrect.f k l0 a1 a2 l3).bind fun t529 => (some t529)) else (some false)) = some r := H
  have A5 := Aside0.mk A50
  clear A50
  have H0_ := Aside0.mk H
  clear H
  go_enter Try.func35, Try.ntmps35
  go_wp2_with (first | ((with_reducible refine gate_callee (f := 63) rfl ?_); refine goesL_ (some 12) rfl rfl Try.func63 (by kernel_rfl) rfl #[.slice A0 l0.length c0, .int .i64 a1, .int .i64 a2] rfl (by (try simp only [List.map_toArray, List.map_cons, List.map_nil]); first | done | rfl | (simp only [List.length_drop, List.length_take]; rfl)) ?_; (with_reducible refine (impl_jigsawCode.calls k _ _ l0 a1 a2 t528 _ ?side1 ?side2 A5.out).mono ?_); (case side1 => repeat (first | exact HR0.out | (with_reducible refine Kd.C_alloc ?_ _) | (with_reducible refine Kd.C_drewN ?_ _) | (with_reducible refine Kd.C_drew ?_))); (case side2 => exact HC0.out); rintro e w6 ⟨rfl, hb⟩; refine ⟨_, rfl, ?_⟩; have n0_ := Aside0.mk (below_step (by repeat (first | (with_reducible first | exact HB.out | apply below_alloc | apply pw_below_drewN | apply below_drew1) | exact HB.out)) hb); clear HB; have HB := n0_; clear n0_; (try clear hb); (try clear hb2); (try clear hk); (try clear hi); refine Stop0.out ?_))
  refine Stop0.mk ?_
  have H := H0_.out
  clear H0_
  by_cases c7 : t528 = 0
  · rw [if_pos c7] at H
    have c7b0 : (t528 == 0) = true := beq_iff_eq.mpr c7
    have c7b1 : (t528 != 0) = false := bne_eq_false_iff_eq.mpr c7
    clear c7
    replace H := Option.bind_eq_some_iff.mp H
    obtain ⟨t529, A80, H⟩ := H
    replace H : (some t529) = some r := H
    have A8 := Aside0.mk A80
    clear A80
    have H0_ := Aside0.mk H
    clear H
    go_wp2_with (first | (go_at_call 64; (with_reducible refine (impl_isCorrect.calls k _ _ l0 a1 a2 _ _ l3 t529 _ ?side1 ?side2 ?side3 ?side4 A8.out).mono ?_); (case side1 => repeat (first | exact (Kd.C_below HR0.out HB.out) | (with_reducible refine Kd.C_alloc ?_ _) | (with_reducible refine Kd.C_drewN ?_ _) | (with_reducible refine Kd.C_drew ?_))); (case side2 => exact HC0.out); (case side3 => repeat (first | exact (Kd.C_below HR3.out HB.out) | (with_reducible refine Kd.C_alloc ?_ _) | (with_reducible refine Kd.C_drewN ?_ _) | (with_reducible refine Kd.C_drew ?_))); (case side4 => exact HC3.out); rintro e w9 ⟨rfl, hb⟩; have n0_ := Aside0.mk (below_step (by repeat (first | (with_reducible first | exact HB.out | apply below_alloc | apply pw_below_drewN | apply below_drew1) | exact HB.out)) hb); clear HB; have HB := n0_; clear n0_; (try clear hb); (try clear hb2); (try clear hk); (try clear hi); refine Stop0.out ?_))
    refine Stop0.mk ?_
    have H := H0_.out
    clear H0_
    obtain rfl := Option.some.inj H
    go_wp2
    go_ret
    exact ⟨by first | rfl | (simp [errW_none, errW_some] <;> rfl) | (simp [*, errW_none, errW_some] <;> rfl), by repeat (first | (with_reducible first | exact HB.out | apply below_alloc | apply pw_below_drewN | apply below_drew1) | exact HB.out)⟩
  · rw [if_neg c7] at H
    have c7b0 : (t528 == 0) = false := beq_eq_false_iff_ne.mpr c7
    have c7b1 : (t528 != 0) = true := bne_iff_ne.mpr c7
    obtain rfl := Option.some.inj H
    go_wp2
    go_ret
    exact ⟨by first | rfl | (simp [errW_none, errW_some] <;> rfl) | (simp [*, errW_none, errW_some] <;> rfl), by repeat (first | (with_reducible first | exact HB.out | apply below_alloc | apply pw_below_drewN | apply below_drew1) | exact HB.out)⟩

end Go.Proofs.Ytgcagmmghckbbaa.A

namespace Go.Proofs.Ytgcagmmghckbbaa.A
open Go.RowKit Go.Proofs.YtgcagmmghckbbaaW.PrintWords Go.Proofs.YtgcagmmghckbbaaW.PrintLast Go.Proofs.YtgcagmmghckbbaaW.PrintMore
attribute [local go_sem] max2_int min2_int max_two min_two max_three min_three max_four min_four   -- for this text's walks alone
set_option linter.unusedVariables false
set_option linter.unusedSimpArgs false

def laws_eqSet.f (a0_0 : Int) (a0_1 : Int) (a1_0 : Int) (a1_1 : Int) : Option (Bool) := if a0_0 = a1_0 then (if a0_1 = a1_1 then (some true) else (some false)) else (some false)
set_option maxHeartbeats 8000000 in
set_option maxRecDepth 100000 in
theorem laws_eqSet.calls (a0_0 : Int) (a0_1 : Int) (a1_0 : Int) (a1_1 : Int) (r : Bool) (w : World) (h : laws_eqSet.f a0_0 a0_1 a1_0 a1_1 = some r) :
    Calls Try.prog 65 #[.agg #[.int .i64 a0_0, .int .i64 a0_1], .agg #[.int .i64 a1_0, .int .i64 a1_1]] w fun e w' => e = .returned (.bool r) ∧ Below w.heap.size w w' := by
  have hu74 := Try.underlying74
  have HB := Aside0.mk (Below.refl w.heap.size w)
  have H : (if a0_0 = a1_0 then (if a0_1 = a1_1 then (some true) else (some false)) else (some false)) = some r := h
  clear h
  by_cases c3 : a0_0 = a1_0
  · rw [if_pos c3] at H
    have c3b0 : (a0_0 == a1_0) = true := beq_iff_eq.mpr c3
    have c3b1 : (a0_0 != a1_0) = false := bne_eq_false_iff_eq.mpr c3
    clear c3
    by_cases c4 : a0_1 = a1_1
    · rw [if_pos c4] at H
      have c4b0 : (a0_1 == a1_1) = true := beq_iff_eq.mpr c4
      have c4b1 : (a0_1 != a1_1) = false := bne_eq_false_iff_eq.mpr c4
      clear c4
      obtain rfl := Option.some.inj H
      go_enter Try.func65, Try.ntmps65
      go_wp2_with (first | ((with_reducible refine gate_dst (N := 2) rfl ?_); refine box_event ?hg (N := 2) ?hd (cs := #[.int .i64 a0_0, .int .i64 a0_1]) (t := 74) ?hr ?_; (case hd => rfl); (case hg => rfl); (case hr => first | (go_simp; done) | (go_simp; rfl)); intro gb530 hg w5 hbox hb; have n0_ := Aside0.mk (below_step (by repeat (first | (with_reducible first | exact HB.out | apply below_alloc | apply pw_below_drewN | apply below_drew1) | exact HB.out)) hb); have n1_ := Aside0.mk (hbox); have n2_ := Aside0.mk ((by rw [hg]; exact (below_size (by repeat (first | (with_reducible first | exact HB.out | apply below_alloc | apply pw_below_drewN | apply below_drew1) | exact HB.out))) : w.heap.size ≤ gb530)); have n3_ := Aside0.mk ((by rw [hg]; exact (below_size (by repeat (first | (with_reducible first | exact HB.out | apply below_alloc | apply pw_below_drewN | apply below_drew1) | exact HB.out))) : w.heap.size ≤ gb530)); clear HB; have HB := n0_; have BK530 := n1_; have GW530 := n2_; have GE530 := n3_; clear n0_ n1_ n2_ n3_; clear hb hbox hg) | ((with_reducible refine gate_dst (N := 3) rfl ?_); refine box_event ?hg (N := 3) ?hd (cs := #[.int .i64 a1_0, .int .i64 a1_1]) (t := 74) ?hr ?_; (case hd => rfl); (case hg => rfl); (case hr => first | (go_simp; done) | (go_simp; rfl)); intro gb531 hg w6 hbox hb; have n0_ := Aside0.mk (blk_below (g := gb530) (o := .cells #[.int .i64 a0_0, .int .i64 a0_1] 74 (0, 0)) (by (with_reducible repeat (first | refine blk_drewN ?_ _ | refine blk_drew ?_ | refine blk_alloc ?_ _)); exact BK530.out) hb); have n1_ := Aside0.mk (below_step (by repeat (first | (with_reducible first | exact HB.out | apply below_alloc | apply pw_below_drewN | apply below_drew1 | refine below_set ?_ GE530.out) | exact HB.out)) hb); have n2_ := Aside0.mk (hbox); have n3_ := Aside0.mk ((by rw [hg]; exact (below_size (by repeat (first | (with_reducible first | exact HB.out | apply below_alloc | apply pw_below_drewN | apply below_drew1 | refine below_set ?_ GE530.out) | exact HB.out))) : w.heap.size ≤ gb531)); have n4_ := Aside0.mk ((by rw [hg]; exact (below_size (by repeat (first | (with_reducible first | exact HB.out | apply below_alloc | apply pw_below_drewN | apply below_drew1 | refine below_set ?_ GE530.out) | exact HB.out))) : w.heap.size ≤ gb531)); have n5_ := Aside0.mk ((by rw [hg]; exact Nat.ne_of_lt (blk_lt (g := gb530) (o := .cells #[.int .i64 a0_0, .int .i64 a0_1] 74 (0, 0)) (by (with_reducible repeat (first | refine blk_drewN ?_ _ | refine blk_drew ?_ | refine blk_alloc ?_ _)); exact BK530.out)) : gb530 ≠ gb531)); have n6_ := Aside0.mk ((by rw [hg]; exact Nat.ne_of_gt (blk_lt (g := gb530) (o := .cells #[.int .i64 a0_0, .int .i64 a0_1] 74 (0, 0)) (by (with_reducible repeat (first | refine blk_drewN ?_ _ | refine blk_drew ?_ | refine blk_alloc ?_ _)); exact BK530.out)) : gb531 ≠ gb530)); clear BK530; clear HB; have BK530 := n0_; have HB := n1_; have BK531 := n2_; have GW531 := n3_; have GE531 := n4_; have NB530_531 := n5_; have NB531_530 := n6_; clear n0_ n1_ n2_ n3_ n4_ n5_ n6_; clear hb hbox hg; have hnb7 := NB530_531.out; have hnc7 := NB531_530.out; have hcz8_0 : w6.cell? ⟨gb530, 0, none⟩ = some (.int .i64 a0_0) := (blk_cell BK530.out 0).trans rfl; have hcz8_1 : w6.cell? ⟨gb530, 1, none⟩ = some (.int .i64 a0_1) := (blk_cell BK530.out 1).trans rfl; have hfz8_0 := blk_frozen BK530.out 0; have hfz8_1 := blk_frozen BK530.out 1; have hcz9_0 : w6.cell? ⟨gb531, 0, none⟩ = some (.int .i64 a1_0) := (blk_cell BK531.out 0).trans rfl; have hcz9_1 : w6.cell? ⟨gb531, 1, none⟩ = some (.int .i64 a1_1) := (blk_cell BK531.out 1).trans rfl; have hfz9_0 := blk_frozen BK531.out 0; have hfz9_1 := blk_frozen BK531.out 1))
      go_ret
      exact ⟨by first | rfl | (simp [errW_none, errW_some] <;> rfl) | (simp [*, errW_none, errW_some] <;> rfl), by repeat (first | (with_reducible first | exact HB.out | apply below_alloc | apply pw_below_drewN | apply below_drew1 | refine below_set ?_ GE530.out | refine below_set ?_ GE531.out) | exact HB.out)⟩
    · rw [if_neg c4] at H
      have c4b0 : (a0_1 == a1_1) = false := beq_eq_false_iff_ne.mpr c4
      have c4b1 : (a0_1 != a1_1) = true := bne_iff_ne.mpr c4
      obtain rfl := Option.some.inj H
      go_enter Try.func65, Try.ntmps65
      go_wp2_with (first | ((with_reducible refine gate_dst (N := 2) rfl ?_); refine box_event ?hg (N := 2) ?hd (cs := #[.int .i64 a0_0, .int .i64 a0_1]) (t := 74) ?hr ?_; (case hd => rfl); (case hg => rfl); (case hr => first | (go_simp; done) | (go_simp; rfl)); intro gb530 hg w10 hbox hb; have n0_ := Aside0.mk (below_step (by repeat (first | (with_reducible first | exact HB.out | apply below_alloc | apply pw_below_drewN | apply below_drew1) | exact HB.out)) hb); have n1_ := Aside0.mk (hbox); have n2_ := Aside0.mk ((by rw [hg]; exact (below_size (by repeat (first | (with_reducible first | exact HB.out | apply below_alloc | apply pw_below_drewN | apply below_drew1) | exact HB.out))) : w.heap.size ≤ gb530)); have n3_ := Aside0.mk ((by rw [hg]; exact (below_size (by repeat (first | (with_reducible first | exact HB.out | apply below_alloc | apply pw_below_drewN | apply below_drew1) | exact HB.out))) : w.heap.size ≤ gb530)); clear HB; have HB := n0_; have BK530 := n1_; have GW530 := n2_; have GE530 := n3_; clear n0_ n1_ n2_ n3_; clear hb hbox hg) | ((with_reducible refine gate_dst (N := 3) rfl ?_); refine box_event ?hg (N := 3) ?hd (cs := #[.int .i64 a1_0, .int .i64 a1_1]) (t := 74) ?hr ?_; (case hd => rfl); (case hg => rfl); (case hr => first | (go_simp; done) | (go_simp; rfl)); intro gb531 hg w11 hbox hb; have n0_ := Aside0.mk (blk_below (g := gb530) (o := .cells #[.int .i64 a0_0, .int .i64 a0_1] 74 (0, 0)) (by (with_reducible repeat (first | refine blk_drewN ?_ _ | refine blk_drew ?_ | refine blk_alloc ?_ _)); exact BK530.out) hb); have n1_ := Aside0.mk (below_step (by repeat (first | (with_reducible first | exact HB.out | apply below_alloc | apply pw_below_drewN | apply below_drew1 | refine below_set ?_ GE530.out) | exact HB.out)) hb); have n2_ := Aside0.mk (hbox); have n3_ := Aside0.mk ((by rw [hg]; exact (below_size (by repeat (first | (with_reducible first | exact HB.out | apply below_alloc | apply pw_below_drewN | apply below_drew1 | refine below_set ?_ GE530.out) | exact HB.out))) : w.heap.size ≤ gb531)); have n4_ := Aside0.mk ((by rw [hg]; exact (below_size (by repeat (first | (with_reducible first | exact HB.out | apply below_alloc | apply pw_below_drewN | apply below_drew1 | refine below_set ?_ GE530.out) | exact HB.out))) : w.heap.size ≤ gb531)); have n5_ := Aside0.mk ((by rw [hg]; exact Nat.ne_of_lt (blk_lt (g := gb530) (o := .cells #[.int .i64 a0_0, .int .i64 a0_1] 74 (0, 0)) (by (with_reducible repeat (first | refine blk_drewN ?_ _ | refine blk_drew ?_ | refine blk_alloc ?_ _)); exact BK530.out)) : gb530 ≠ gb531)); have n6_ := Aside0.mk ((by rw [hg]; exact Nat.ne_of_gt (blk_lt (g := gb530) (o := .cells #[.int .i64 a0_0, .int .i64 a0_1] 74 (0, 0)) (by (with_reducible repeat (first | refine blk_drewN ?_ _ | refine blk_drew ?_ | refine blk_alloc ?_ _)); exact BK530.out)) : gb531 ≠ gb530)); clear BK530; clear HB; have BK530 := n0_; have HB := n1_; have BK531 := n2_; have GW531 := n3_; have GE531 := n4_; have NB530_531 := n5_; have NB531_530 := n6_; clear n0_ n1_ n2_ n3_ n4_ n5_ n6_; clear hb hbox hg; have hnb12 := NB530_531.out; have hnc12 := NB531_530.out; have hcz13_0 : w11.cell? ⟨gb530, 0, none⟩ = some (.int .i64 a0_0) := (blk_cell BK530.out 0).trans rfl; have hcz13_1 : w11.cell? ⟨gb530, 1, none⟩ = some (.int .i64 a0_1) := (blk_cell BK530.out 1).trans rfl; have hfz13_0 := blk_frozen BK530.out 0; have hfz13_1 := blk_frozen BK530.out 1; have hcz14_0 : w11.cell? ⟨gb531, 0, none⟩ = some (.int .i64 a1_0) := (blk_cell BK531.out 0).trans rfl; have hcz14_1 : w11.cell? ⟨gb531, 1, none⟩ = some (.int .i64 a1_1) := (blk_cell BK531.out 1).trans rfl; have hfz14_0 := blk_frozen BK531.out 0; have hfz14_1 := blk_frozen BK531.out 1))
      go_ret
      exact ⟨by first | rfl | (simp [errW_none, errW_some] <;> rfl) | (simp [*, errW_none, errW_some] <;> rfl), by repeat (first | (with_reducible first | exact HB.out | apply below_alloc | apply pw_below_drewN | apply below_drew1 | refine below_set ?_ GE530.out | refine below_set ?_ GE531.out) | exact HB.out)⟩
  · rw [if_neg c3] at H
    have c3b0 : (a0_0 == a1_0) = false := beq_eq_false_iff_ne.mpr c3
    have c3b1 : (a0_0 != a1_0) = true := bne_iff_ne.mpr c3
    obtain rfl := Option.some.inj H
    go_enter Try.func65, Try.ntmps65
    go_wp2_with (first | ((with_reducible refine gate_dst (N := 2) rfl ?_); refine box_event ?hg (N := 2) ?hd (cs := #[.int .i64 a0_0, .int .i64 a0_1]) (t := 74) ?hr ?_; (case hd => rfl); (case hg => rfl); (case hr => first | (go_simp; done) | (go_simp; rfl)); intro gb530 hg w15 hbox hb; have n0_ := Aside0.mk (below_step (by repeat (first | (with_reducible first | exact HB.out | apply below_alloc | apply pw_below_drewN | apply below_drew1) | exact HB.out)) hb); have n1_ := Aside0.mk (hbox); have n2_ := Aside0.mk ((by rw [hg]; exact (below_size (by repeat (first | (with_reducible first | exact HB.out | apply below_alloc | apply pw_below_drewN | apply below_drew1) | exact HB.out))) : w.heap.size ≤ gb530)); have n3_ := Aside0.mk ((by rw [hg]; exact (below_size (by repeat (first | (with_reducible first | exact HB.out | apply below_alloc | apply pw_below_drewN | apply below_drew1) | exact HB.out))) : w.heap.size ≤ gb530)); clear HB; have HB := n0_; have BK530 := n1_; have GW530 := n2_; have GE530 := n3_; clear n0_ n1_ n2_ n3_; clear hb hbox hg) | ((with_reducible refine gate_dst (N := 3) rfl ?_); refine box_event ?hg (N := 3) ?hd (cs := #[.int .i64 a1_0, .int .i64 a1_1]) (t := 74) ?hr ?_; (case hd => rfl); (case hg => rfl); (case hr => first | (go_simp; done) | (go_simp; rfl)); intro gb531 hg w16 hbox hb; have n0_ := Aside0.mk (blk_below (g := gb530) (o := .cells #[.int .i64 a0_0, .int .i64 a0_1] 74 (0, 0)) (by (with_reducible repeat (first | refine blk_drewN ?_ _ | refine blk_drew ?_ | refine blk_alloc ?_ _)); exact BK530.out) hb); have n1_ := Aside0.mk (below_step (by repeat (first | (with_reducible first | exact HB.out | apply below_alloc | apply pw_below_drewN | apply below_drew1 | refine below_set ?_ GE530.out) | exact HB.out)) hb); have n2_ := Aside0.mk (hbox); have n3_ := Aside0.mk ((by rw [hg]; exact (below_size (by repeat (first | (with_reducible first | exact HB.out | apply below_alloc | apply pw_below_drewN | apply below_drew1 | refine below_set ?_ GE530.out) | exact HB.out))) : w.heap.size ≤ gb531)); have n4_ := Aside0.mk ((by rw [hg]; exact (below_size (by repeat (first | (with_reducible first | exact HB.out | apply below_alloc | apply pw_below_drewN | apply below_drew1 | refine below_set ?_ GE530.out) | exact HB.out))) : w.heap.size ≤ gb531)); have n5_ := Aside0.mk ((by rw [hg]; exact Nat.ne_of_lt (blk_lt (g := gb530) (o := .cells #[.int .i64 a0_0, .int .i64 a0_1] 74 (0, 0)) (by (with_reducible repeat (first | refine blk_drewN ?_ _ | refine blk_drew ?_ | refine blk_alloc ?_ _)); exact BK530.out)) : gb530 ≠ gb531)); have n6_ := Aside0.mk ((by rw [hg]; exact Nat.ne_of_gt (blk_lt (g := gb530) (o := .cells #[.int .i64 a0_0, .int .i64 a0_1] 74 (0, 0)) (by (with_reducible repeat (first | refine blk_drewN ?_ _ | refine blk_drew ?_ | refine blk_alloc ?_ _)); exact BK530.out)) : gb531 ≠ gb530)); clear BK530; clear HB; have BK530 := n0_; have HB := n1_; have BK531 := n2_; have GW531 := n3_; have GE531 := n4_; have NB530_531 := n5_; have NB531_530 := n6_; clear n0_ n1_ n2_ n3_ n4_ n5_ n6_; clear hb hbox hg; have hnb17 := NB530_531.out; have hnc17 := NB531_530.out; have hcz18_0 : w16.cell? ⟨gb530, 0, none⟩ = some (.int .i64 a0_0) := (blk_cell BK530.out 0).trans rfl; have hcz18_1 : w16.cell? ⟨gb530, 1, none⟩ = some (.int .i64 a0_1) := (blk_cell BK530.out 1).trans rfl; have hfz18_0 := blk_frozen BK530.out 0; have hfz18_1 := blk_frozen BK530.out 1; have hcz19_0 : w16.cell? ⟨gb531, 0, none⟩ = some (.int .i64 a1_0) := (blk_cell BK531.out 0).trans rfl; have hcz19_1 : w16.cell? ⟨gb531, 1, none⟩ = some (.int .i64 a1_1) := (blk_cell BK531.out 1).trans rfl; have hfz19_0 := blk_frozen BK531.out 0; have hfz19_1 := blk_frozen BK531.out 1))
    go_ret
    exact ⟨by first | rfl | (simp [errW_none, errW_some] <;> rfl) | (simp [*, errW_none, errW_some] <;> rfl), by repeat (first | (with_reducible first | exact HB.out | apply below_alloc | apply pw_below_drewN | apply below_drew1 | refine below_set ?_ GE530.out | refine below_set ?_ GE531.out) | exact HB.out)⟩

end Go.Proofs.Ytgcagmmghckbbaa.A

namespace Go.Proofs.Ytgcagmmghckbbaa.A
open Go.RowKit Go.Proofs.YtgcagmmghckbbaaW.PrintWords Go.Proofs.YtgcagmmghckbbaaW.PrintLast Go.Proofs.YtgcagmmghckbbaaW.PrintMore
attribute [local go_sem] max2_int min2_int max_two min_two max_three min_three max_four min_four   -- for this text's walks alone
set_option linter.unusedVariables false
set_option linter.unusedSimpArgs false

def laws_eqSetS.l0 : Nat → List (S74) → List (S74) → Int → Option (Bool)
  | 0, _, _, _ => none
  | k + 1, x0, x1, x5 => if x5 < (x0.length : Int) then (if 0 ≤ x5 then (if x5 < (x1.length : Int) then ((laws_eqSet.f ((rd_T74 x0 x5).f0) ((rd_T74 x0 x5).f1) ((rd_T74 x1 x5).f0) ((rd_T74 x1 x5).f1)).bind fun t534 => (if t534 = true then (laws_eqSetS.l0 k x0 x1 (wrap64 (x5 + 1))) else (some false))) else (none)) else (none)) else (some true)
def laws_eqSetS.f (k : Nat) (l0 : List (S74)) (l1 : List (S74)) : Option (Bool) := if (l0.length : Int) = (l1.length : Int) then (laws_eqSetS.l0 k l0 l1 0) else (some false)
def laws_eqSetS.T6 : Bool × List (List Nat × List Nat) := (true, [([], []), ([], []), ([0, 1], [0, 1]), ([2], [2]), ([], []), ([], []), ([4, 5], [4, 5]), ([6], [6]), ([3, 7], [3, 7]), ([8], [8])])
def laws_eqSetS.B6 : List Nat := [0, 0, 3, 7, 0, 0, 48, 112, 255, 511]
theorem laws_eqSetS.tab6 : rtab .any (opsOf Try.f36 6) = laws_eqSetS.T6 := by kernel_rfl
theorem laws_eqSetS.bits6 : waitsOk laws_eqSetS.T6.2 laws_eqSetS.B6 = true := by kernel_rfl
set_option maxHeartbeats 8000000 in
set_option maxRecDepth 100000 in
theorem laws_eqSetS.calls (k : Nat) (A0 : Option Addr) (c0 : Nat) (l0 : List (S74)) (A1 : Option Addr) (c1 : Nat) (l1 : List (S74)) (r : Bool) (w : World) (hr0 : Kd.C k74 w A0 l0.length l0) (hc0 : l0.length ≤ c0) (hr1 : Kd.C k74 w A1 l1.length l1) (hc1 : l1.length ≤ c1) (h : laws_eqSetS.f k l0 l1 = some r) :
    Calls Try.prog 36 #[.slice A0 l0.length c0, .slice A1 l1.length c1] w fun e w' => e = .returned (.bool r) ∧ Below w.heap.size w w' := by
  have hu74 := Try.underlying74
  have HR0 := Aside0.mk hr0
  have HC0 := Aside0.mk hc0
  clear hr0 hc0
  have HR1 := Aside0.mk hr1
  have HC1 := Aside0.mk hc1
  clear hr1 hc1
  have HB := Aside0.mk (Below.refl w.heap.size w)
  have H : (if (l0.length : Int) = (l1.length : Int) then (laws_eqSetS.l0 k l0 l1 0) else (some false)) = some r := h
  clear h
  by_cases c3 : (l0.length : Int) = (l1.length : Int)
  · rw [if_pos c3] at H
    have c3b0 : ((l0.length : Int) == (l1.length : Int)) = true := beq_iff_eq.mpr c3
    have c3b1 : ((l0.length : Int) != (l1.length : Int)) = false := bne_eq_false_iff_eq.mpr c3
    have c3b2 : (l0.length == l1.length) = true := by first | simpa using c3 | (simp at c3 ⊢; omega)
    clear c3
    have H' := Aside0.mk H
    clear H
    go_enter Try.func36, Try.ntmps36
    go_wp2
    go_loopg [5] k (fun kq v5 w' => ∃ (x5_1 : Int), v5 = .int .i64 x5_1 ∧ Aside0 (laws_eqSetS.l0 kq l0 l1 x5_1 = some r) ∧ Aside0 (kq ≤ k) ∧ Aside0 (Below w.heap.size w w'))
    case atStart => exact ⟨(0), (by first | rfl | (simp; done) | (simp [*]; done)), H', ⟨Nat.le_refl _⟩, ⟨by repeat (first | (with_reducible first | exact HB.out | apply below_alloc | apply pw_below_drewN | apply below_drew1) | exact HB.out)⟩⟩
    case round =>
      clear H'
      try clear c1
      try clear p2
      try clear c3
      try clear c3b0
      try clear c3b1
      try clear c3b2
      obtain ⟨x5_1, rfl, HA, HK1, HB⟩ := hrel
      cases gk with
      | zero => exact absurd HA.out (by simp [laws_eqSetS.l0])
      | succ k1 =>
        have H := HA.out
        clear HA
        simp only [laws_eqSetS.l0] at H
        by_cases c4 : x5_1 < (l0.length : Int)
        · rw [if_pos c4] at H
          have c4b0 : decide (x5_1 < (l0.length : Int)) = true := decide_eq_true c4
          clear c4
          by_cases c5 : 0 ≤ x5_1
          · rw [if_pos c5] at H
            have c5b0 : decide (0 ≤ x5_1) = true := decide_eq_true c5
            clear c5
            by_cases c6 : x5_1 < (l1.length : Int)
            · rw [if_pos c6] at H
              have c6b0 : decide (x5_1 < (l1.length : Int)) = true := decide_eq_true c6
              clear c6
              replace H := Option.bind_eq_some_iff.mp H
              obtain ⟨t534, A70, H⟩ := H
              replace H : (if t534 = true then (laws_eqSetS.l0 k1 l0 l1 (wrap64 (x5_1 + 1))) else (some false)) = some r := H
              have A7 := Aside0.mk A70
              clear A70
              by_cases c8 : t534 = true
              · subst c8
                have H1 : (laws_eqSetS.l0 k1 l0 l1 (wrap64 (x5_1 + 1))) = some r := by rw [if_pos rfl] at H; exact H
                clear H
                have H := H1
                clear H1
                have H' := Aside0.mk H
                clear H
                try go_wp2
                have n0_ := Aside0.mk (below_drew1 HB.out)
                clear HB
                have HB := n0_
                clear n0_
                have p532 : 0 ≤ (x5_1 : Int) := of_decide_eq_true (by first | (with_reducible assumption) | assumption)
                have q532 : x5_1 < (l0.length : Int) := of_decide_eq_true (by first | (with_reducible assumption) | assumption)
                obtain ⟨ad532, e532, hx532_0, hx532_1⟩ := at_T74 HR0.out x5_1 p532 q532
                have hw532_1 := hx532_1
                have hw532_0 := hx532_0
                cases e532
                replace hx532_0 := (HB.out.cell (World.block_lt_of_cell? w _ hx532_0)).trans hx532_0
                replace hx532_1 := (HB.out.cell (World.block_lt_of_cell? w _ hx532_1)).trans hx532_1
                replace p532 := eq_true p532
                replace q532 := eq_true q532
                have p533 : 0 ≤ (x5_1 : Int) := of_decide_eq_true (by first | (with_reducible assumption) | assumption)
                have q533 : x5_1 < (l1.length : Int) := of_decide_eq_true (by first | (with_reducible assumption) | assumption)
                obtain ⟨ad533, e533, hx533_0, hx533_1⟩ := at_T74 HR1.out x5_1 p533 q533
                have hw533_1 := hx533_1
                have hw533_0 := hx533_0
                cases e533
                replace hx533_0 := (HB.out.cell (World.block_lt_of_cell? w _ hx533_0)).trans hx533_0
                replace hx533_1 := (HB.out.cell (World.block_lt_of_cell? w _ hx533_1)).trans hx533_1
                replace p533 := eq_true p533
                replace q533 := eq_true q533
                refine start_ (n := 10) (S := fun w' => w'.cell? (ad532.add ((x5_1).toNat * 2)) = some (.int .i64 ((rd_T74 l0 x5_1).f0)) ∧ w'.cell? ⟨(ad532.add ((x5_1).toNat * 2)).block, (ad532.add ((x5_1).toNat * 2)).off + 1, none⟩ = some (.int .i64 ((rd_T74 l0 x5_1).f1)) ∧ w'.cell? (ad533.add ((x5_1).toNat * 2)) = some (.int .i64 ((rd_T74 l1 x5_1).f0)) ∧ w'.cell? ⟨(ad533.add ((x5_1).toNat * 2)).block, (ad533.add ((x5_1).toNat * 2)).off + 1, none⟩ = some (.int .i64 ((rd_T74 l1 x5_1).f1))) (ds := []) #[false, false, false, false, false, false, false, false, false, false] (by kernel_rfl) rfl rfl ⟨((HB.out.cell (World.block_lt_of_cell? w _ hw532_0)).trans hw532_0), ((HB.out.cell (World.block_lt_of_cell? w _ hw532_1)).trans hw532_1), ((HB.out.cell (World.block_lt_of_cell? w _ hw533_0)).trans hw533_0), ((HB.out.cell (World.block_lt_of_cell? w _ hw533_1)).trans hw533_1)⟩ (fun hHeld => ?_); refine with_tabW laws_eqSetS.tab6 laws_eqSetS.bits6 (fun HT_ HW_ => ?_)
                generalize wr.drew = w9 at HB hx532_0 hx532_1 hx533_0 hx533_1 hHeld ⊢
                refine pure_ (i := 0) (N := some 17) (v := ?_) (a' := ?_) #[true, false, false, false, false, false, false, false, false, false] rfl rfl (any_of HT_.out (by kernel_rfl)) (fun _ _ _ h => h) (Or.inl ⟨by rfl, ?_⟩) ?_ ?_
                rotate_left
                · intro w'
                  go_simp
                  with_reducible rfl
                rotate_left
                · simp only [Act.put, List.setIfInBounds_toArray, List.set_cons_zero, List.set_cons_succ, i64_w, i32_w]
                  rfl
                refine pure_ (i := 1) (N := some 18) (v := ?_) (a' := ?_) #[true, true, false, false, false, false, false, false, false, false] rfl rfl (any_of HT_.out (by kernel_rfl)) (fun _ _ _ h => h) (Or.inl ⟨by rfl, ?_⟩) ?_ ?_
                rotate_left
                · intro w'
                  go_simp
                  with_reducible rfl
                rotate_left
                · simp only [Act.put, List.setIfInBounds_toArray, List.set_cons_zero, List.set_cons_succ, i64_w, i32_w]
                  rfl
                refine pure_ (i := 2) (N := some 19) (v := ?_) (a' := ?_) #[true, true, true, false, false, false, false, false, false, false] rfl rfl (any_of HT_.out (by kernel_rfl)) (fun _ _ _ h => h) (Or.inl ⟨by rfl, ?_⟩) ?_ ?_
                rotate_left
                · intro w'
                  go_simp
                  with_reducible rfl
                rotate_left
                · simp only [Act.put, List.setIfInBounds_toArray, List.set_cons_zero, List.set_cons_succ, i64_w, i32_w]
                  rfl
                refine pure_ (i := 4) (N := some 21) (v := ?_) (a' := ?_) #[true, true, true, false, true, false, false, false, false, false] rfl rfl (any_of HT_.out (by kernel_rfl)) (fun _ _ _ h => h) (Or.inl ⟨by rfl, ?_⟩) ?_ ?_
                rotate_left
                · intro w'
                  go_simp
                  with_reducible rfl
                rotate_left
                · simp only [Act.put, List.setIfInBounds_toArray, List.set_cons_zero, List.set_cons_succ, i64_w, i32_w]
                  rfl
                refine pure_ (i := 5) (N := some 22) (v := ?_) (a' := ?_) #[true, true, true, false, true, true, false, false, false, false] rfl rfl (any_of HT_.out (by kernel_rfl)) (fun _ _ _ h => h) (Or.inl ⟨by rfl, ?_⟩) ?_ ?_
                rotate_left
                · intro w'
                  go_simp
                  with_reducible rfl
                rotate_left
                · simp only [Act.put, List.setIfInBounds_toArray, List.set_cons_zero, List.set_cons_succ, i64_w, i32_w]
                  rfl
                refine pure_ (i := 6) (N := some 23) (v := ?_) (a' := ?_) #[true, true, true, false, true, true, true, false, false, false] rfl rfl (any_of HT_.out (by kernel_rfl)) (fun _ _ _ h => h) (Or.inl ⟨by rfl, ?_⟩) ?_ ?_
                rotate_left
                · intro w'
                  go_simp
                  with_reducible rfl
                rotate_left
                · simp only [Act.put, List.setIfInBounds_toArray, List.set_cons_zero, List.set_cons_succ, i64_w, i32_w]
                  rfl
                refine take_ (i := 3) (N := some 20) (v := ?_) (a' := ?_) #[true, true, true, true, true, true, true, false, false, false] rfl rfl (take_ofW HT_.out HW_.out (by kernel_rfl)) (fun _ _ _ h => h) (Or.inl ⟨by rfl, ?_⟩) hHeld ?_ ?_
                rotate_left
                · rintro w' ⟨s0, s1, s2, s3⟩
                  go_simp
                  with_reducible rfl
                rotate_left
                · simp only [Act.put, List.setIfInBounds_toArray, List.set_cons_zero, List.set_cons_succ, i64_w, i32_w]
                  rfl
                refine take_ (i := 7) (N := some 24) (v := ?_) (a' := ?_) #[true, true, true, true, true, true, true, true, false, false] rfl rfl (take_ofW HT_.out HW_.out (by kernel_rfl)) (fun _ _ _ h => h) (Or.inl ⟨by rfl, ?_⟩) hHeld ?_ ?_
                rotate_left
                · rintro w' ⟨s0, s1, s2, s3⟩
                  go_simp
                  with_reducible rfl
                rotate_left
                · simp only [Act.put, List.setIfInBounds_toArray, List.set_cons_zero, List.set_cons_succ, i64_w, i32_w]
                  rfl
                refine one_ (i := 8) (N := some 25) #[true, true, true, true, true, true, true, true, true, false] rfl rfl (one_of HT_.out (by kernel_rfl)) (by decide) (fun K hK => ?_)
                refine goes_ Try.func65 (by kernel_rfl) rfl #[.agg #[.int .i64 ((rd_T74 l0 x5_1).f0), .int .i64 ((rd_T74 l0 x5_1).f1)], .agg #[.int .i64 ((rd_T74 l1 x5_1).f0), .int .i64 ((rd_T74 l1 x5_1).f1)]] (by rfl) rfl rfl (by (try simp only [List.map_toArray, List.map_cons, List.map_nil]); first | done | rfl | (simp only [List.length_drop, List.length_take]; rfl)) ?_
                with_reducible refine (laws_eqSet.calls ((rd_T74 l0 x5_1).f0) ((rd_T74 l0 x5_1).f1) ((rd_T74 l1 x5_1).f0) ((rd_T74 l1 x5_1).f1) true _ A7.out).mono ?_
                rintro e w10 ⟨rfl, hb⟩
                refine ⟨_, rfl, ?_⟩
                have n0_ := Aside0.mk (below_step (by repeat (first | (with_reducible first | exact HB.out | apply below_alloc | apply pw_below_drewN | apply below_drew1) | exact HB.out)) hb)
                clear HB
                have HB := n0_
                clear n0_
                (try clear hb)
                (try clear hb2)
                (try clear hk)
                (try clear hi)
                refine hK.out _ _ ⟨((HB.out.cell (World.block_lt_of_cell? w _ hw532_0)).trans hw532_0), ((HB.out.cell (World.block_lt_of_cell? w _ hw532_1)).trans hw532_1), ((HB.out.cell (World.block_lt_of_cell? w _ hw533_0)).trans hw533_0), ((HB.out.cell (World.block_lt_of_cell? w _ hw533_1)).trans hw533_1)⟩ (fun hHeld => ?_)
                clear hK K
                refine norm_ (a' := ?_) ?_ ?_
                rotate_left
                · show Act.put _ (some 25) _ = _
                  simp only [Act.put, List.setIfInBounds_toArray, List.set_cons_zero, List.set_cons_succ, i64_w, i32_w]
                  rfl
                refine pure_ (i := 9) (N := some 26) (v := ?_) (a' := ?_) #[true, true, true, true, true, true, true, true, true, true] rfl rfl (any_of HT_.out (by kernel_rfl)) (fun _ _ _ h => h) (Or.inl ⟨by rfl, ?_⟩) ?_ ?_
                rotate_left
                · intro w'
                  go_simp
                  with_reducible rfl
                rotate_left
                · simp only [Act.put, List.setIfInBounds_toArray, List.set_cons_zero, List.set_cons_succ, i64_w, i32_w]
                  rfl
                refine done_ (done_of HT_.out (by kernel_rfl)) ?_
                try go_wp2
                go_roundg k1
                case measure => have := HK1.out; omega
                case rel => exact ⟨(wrap64 (x5_1 + 1)), (by first | rfl | (simp; done) | (simp [*]; done)), H', ⟨by have := HK1.out; omega⟩, ⟨by repeat (first | (with_reducible first | exact HB.out | apply below_alloc | apply pw_below_drewN | apply below_drew1) | exact HB.out)⟩⟩
              · replace c8 := Bool.eq_false_iff.mpr c8
                subst c8
                have H1 : (some false) = some r := by rw [if_neg (show ¬ (false = true) by decide)] at H; exact H
                clear H
                have H := H1
                clear H1
                obtain rfl := Option.some.inj H
                try go_wp2
                have n0_ := Aside0.mk (below_drew1 HB.out)
                clear HB
                have HB := n0_
                clear n0_
                have p532 : 0 ≤ (x5_1 : Int) := of_decide_eq_true (by first | (with_reducible assumption) | assumption)
                have q532 : x5_1 < (l0.length : Int) := of_decide_eq_true (by first | (with_reducible assumption) | assumption)
                obtain ⟨ad532, e532, hx532_0, hx532_1⟩ := at_T74 HR0.out x5_1 p532 q532
                have hw532_1 := hx532_1
                have hw532_0 := hx532_0
                cases e532
                replace hx532_0 := (HB.out.cell (World.block_lt_of_cell? w _ hx532_0)).trans hx532_0
                replace hx532_1 := (HB.out.cell (World.block_lt_of_cell? w _ hx532_1)).trans hx532_1
                replace p532 := eq_true p532
                replace q532 := eq_true q532
                have p533 : 0 ≤ (x5_1 : Int) := of_decide_eq_true (by first | (with_reducible assumption) | assumption)
                have q533 : x5_1 < (l1.length : Int) := of_decide_eq_true (by first | (with_reducible assumption) | assumption)
                obtain ⟨ad533, e533, hx533_0, hx533_1⟩ := at_T74 HR1.out x5_1 p533 q533
                have hw533_1 := hx533_1
                have hw533_0 := hx533_0
                cases e533
                replace hx533_0 := (HB.out.cell (World.block_lt_of_cell? w _ hx533_0)).trans hx533_0
                replace hx533_1 := (HB.out.cell (World.block_lt_of_cell? w _ hx533_1)).trans hx533_1
                replace p533 := eq_true p533
                replace q533 := eq_true q533
                refine start_ (n := 10) (S := fun w' => w'.cell? (ad532.add ((x5_1).toNat * 2)) = some (.int .i64 ((rd_T74 l0 x5_1).f0)) ∧ w'.cell? ⟨(ad532.add ((x5_1).toNat * 2)).block, (ad532.add ((x5_1).toNat * 2)).off + 1, none⟩ = some (.int .i64 ((rd_T74 l0 x5_1).f1)) ∧ w'.cell? (ad533.add ((x5_1).toNat * 2)) = some (.int .i64 ((rd_T74 l1 x5_1).f0)) ∧ w'.cell? ⟨(ad533.add ((x5_1).toNat * 2)).block, (ad533.add ((x5_1).toNat * 2)).off + 1, none⟩ = some (.int .i64 ((rd_T74 l1 x5_1).f1))) (ds := []) #[false, false, false, false, false, false, false, false, false, false] (by kernel_rfl) rfl rfl ⟨((HB.out.cell (World.block_lt_of_cell? w _ hw532_0)).trans hw532_0), ((HB.out.cell (World.block_lt_of_cell? w _ hw532_1)).trans hw532_1), ((HB.out.cell (World.block_lt_of_cell? w _ hw533_0)).trans hw533_0), ((HB.out.cell (World.block_lt_of_cell? w _ hw533_1)).trans hw533_1)⟩ (fun hHeld => ?_); refine with_tabW laws_eqSetS.tab6 laws_eqSetS.bits6 (fun HT_ HW_ => ?_)
                generalize wr.drew = w11 at HB hx532_0 hx532_1 hx533_0 hx533_1 hHeld ⊢
                refine pure_ (i := 0) (N := some 17) (v := ?_) (a' := ?_) #[true, false, false, false, false, false, false, false, false, false] rfl rfl (any_of HT_.out (by kernel_rfl)) (fun _ _ _ h => h) (Or.inl ⟨by rfl, ?_⟩) ?_ ?_
                rotate_left
                · intro w'
                  go_simp
                  with_reducible rfl
                rotate_left
                · simp only [Act.put, List.setIfInBounds_toArray, List.set_cons_zero, List.set_cons_succ, i64_w, i32_w]
                  rfl
                refine pure_ (i := 1) (N := some 18) (v := ?_) (a' := ?_) #[true, true, false, false, false, false, false, false, false, false] rfl rfl (any_of HT_.out (by kernel_rfl)) (fun _ _ _ h => h) (Or.inl ⟨by rfl, ?_⟩) ?_ ?_
                rotate_left
                · intro w'
                  go_simp
                  with_reducible rfl
                rotate_left
                · simp only [Act.put, List.setIfInBounds_toArray, List.set_cons_zero, List.set_cons_succ, i64_w, i32_w]
                  rfl
                refine pure_ (i := 2) (N := some 19) (v := ?_) (a' := ?_) #[true, true, true, false, false, false, false, false, false, false] rfl rfl (any_of HT_.out (by kernel_rfl)) (fun _ _ _ h => h) (Or.inl ⟨by rfl, ?_⟩) ?_ ?_
                rotate_left
                · intro w'
                  go_simp
                  with_reducible rfl
                rotate_left
                · simp only [Act.put, List.setIfInBounds_toArray, List.set_cons_zero, List.set_cons_succ, i64_w, i32_w]
                  rfl
                refine pure_ (i := 4) (N := some 21) (v := ?_) (a' := ?_) #[true, true, true, false, true, false, false, false, false, false] rfl rfl (any_of HT_.out (by kernel_rfl)) (fun _ _ _ h => h) (Or.inl ⟨by rfl, ?_⟩) ?_ ?_
                rotate_left
                · intro w'
                  go_simp
                  with_reducible rfl
                rotate_left
                · simp only [Act.put, List.setIfInBounds_toArray, List.set_cons_zero, List.set_cons_succ, i64_w, i32_w]
                  rfl
                refine pure_ (i := 5) (N := some 22) (v := ?_) (a' := ?_) #[true, true, true, false, true, true, false, false, false, false] rfl rfl (any_of HT_.out (by kernel_rfl)) (fun _ _ _ h => h) (Or.inl ⟨by rfl, ?_⟩) ?_ ?_
                rotate_left
                · intro w'
                  go_simp
                  with_reducible rfl
                rotate_left
                · simp only [Act.put, List.setIfInBounds_toArray, List.set_cons_zero, List.set_cons_succ, i64_w, i32_w]
                  rfl
                refine pure_ (i := 6) (N := some 23) (v := ?_) (a' := ?_) #[true, true, true, false, true, true, true, false, false, false] rfl rfl (any_of HT_.out (by kernel_rfl)) (fun _ _ _ h => h) (Or.inl ⟨by rfl, ?_⟩) ?_ ?_
                rotate_left
                · intro w'
                  go_simp
                  with_reducible rfl
                rotate_left
                · simp only [Act.put, List.setIfInBounds_toArray, List.set_cons_zero, List.set_cons_succ, i64_w, i32_w]
                  rfl
                refine take_ (i := 3) (N := some 20) (v := ?_) (a' := ?_) #[true, true, true, true, true, true, true, false, false, false] rfl rfl (take_ofW HT_.out HW_.out (by kernel_rfl)) (fun _ _ _ h => h) (Or.inl ⟨by rfl, ?_⟩) hHeld ?_ ?_
                rotate_left
                · rintro w' ⟨s0, s1, s2, s3⟩
                  go_simp
                  with_reducible rfl
                rotate_left
                · simp only [Act.put, List.setIfInBounds_toArray, List.set_cons_zero, List.set_cons_succ, i64_w, i32_w]
                  rfl
                refine take_ (i := 7) (N := some 24) (v := ?_) (a' := ?_) #[true, true, true, true, true, true, true, true, false, false] rfl rfl (take_ofW HT_.out HW_.out (by kernel_rfl)) (fun _ _ _ h => h) (Or.inl ⟨by rfl, ?_⟩) hHeld ?_ ?_
                rotate_left
                · rintro w' ⟨s0, s1, s2, s3⟩
                  go_simp
                  with_reducible rfl
                rotate_left
                · simp only [Act.put, List.setIfInBounds_toArray, List.set_cons_zero, List.set_cons_succ, i64_w, i32_w]
                  rfl
                refine one_ (i := 8) (N := some 25) #[true, true, true, true, true, true, true, true, true, false] rfl rfl (one_of HT_.out (by kernel_rfl)) (by decide) (fun K hK => ?_)
                refine goes_ Try.func65 (by kernel_rfl) rfl #[.agg #[.int .i64 ((rd_T74 l0 x5_1).f0), .int .i64 ((rd_T74 l0 x5_1).f1)], .agg #[.int .i64 ((rd_T74 l1 x5_1).f0), .int .i64 ((rd_T74 l1 x5_1).f1)]] (by rfl) rfl rfl (by (try simp only [List.map_toArray, List.map_cons, List.map_nil]); first | done | rfl | (simp only [List.length_drop, List.length_take]; rfl)) ?_
                with_reducible refine (laws_eqSet.calls ((rd_T74 l0 x5_1).f0) ((rd_T74 l0 x5_1).f1) ((rd_T74 l1 x5_1).f0) ((rd_T74 l1 x5_1).f1) false _ A7.out).mono ?_
                rintro e w12 ⟨rfl, hb⟩
                refine ⟨_, rfl, ?_⟩
                have n0_ := Aside0.mk (below_step (by repeat (first | (with_reducible first | exact HB.out | apply below_alloc | apply pw_below_drewN | apply below_drew1) | exact HB.out)) hb)
                clear HB
                have HB := n0_
                clear n0_
                (try clear hb)
                (try clear hb2)
                (try clear hk)
                (try clear hi)
                refine hK.out _ _ ⟨((HB.out.cell (World.block_lt_of_cell? w _ hw532_0)).trans hw532_0), ((HB.out.cell (World.block_lt_of_cell? w _ hw532_1)).trans hw532_1), ((HB.out.cell (World.block_lt_of_cell? w _ hw533_0)).trans hw533_0), ((HB.out.cell (World.block_lt_of_cell? w _ hw533_1)).trans hw533_1)⟩ (fun hHeld => ?_)
                clear hK K
                refine norm_ (a' := ?_) ?_ ?_
                rotate_left
                · show Act.put _ (some 25) _ = _
                  simp only [Act.put, List.setIfInBounds_toArray, List.set_cons_zero, List.set_cons_succ, i64_w, i32_w]
                  rfl
                refine pure_ (i := 9) (N := some 26) (v := ?_) (a' := ?_) #[true, true, true, true, true, true, true, true, true, true] rfl rfl (any_of HT_.out (by kernel_rfl)) (fun _ _ _ h => h) (Or.inl ⟨by rfl, ?_⟩) ?_ ?_
                rotate_left
                · intro w'
                  go_simp
                  with_reducible rfl
                rotate_left
                · simp only [Act.put, List.setIfInBounds_toArray, List.set_cons_zero, List.set_cons_succ, i64_w, i32_w]
                  rfl
                refine done_ (done_of HT_.out (by kernel_rfl)) ?_
                try go_wp2
                go_ret
                exact ⟨by first | rfl | (simp [errW_none, errW_some] <;> rfl) | (simp [*, errW_none, errW_some] <;> rfl), by repeat (first | (with_reducible first | exact HB.out | apply below_alloc | apply pw_below_drewN | apply below_drew1) | exact HB.out)⟩
            · rw [if_neg c6] at H
              exact absurd H (by simp)
          · rw [if_neg c5] at H
            exact absurd H (by simp)
        · rw [if_neg c4] at H
          have c4b0 : decide (x5_1 < (l0.length : Int)) = false := decide_eq_false c4
          clear c4
          obtain rfl := Option.some.inj H
          go_wp2
          go_ret
          exact ⟨by first | rfl | (simp [errW_none, errW_some] <;> rfl) | (simp [*, errW_none, errW_some] <;> rfl), by repeat (first | (with_reducible first | exact HB.out | apply below_alloc | apply pw_below_drewN | apply below_drew1) | exact HB.out)⟩
  · rw [if_neg c3] at H
    have c3b0 : ((l0.length : Int) == (l1.length : Int)) = false := beq_eq_false_iff_ne.mpr c3
    have c3b1 : ((l0.length : Int) != (l1.length : Int)) = true := bne_iff_ne.mpr c3
    have c3b2 : (l0.length == l1.length) = false := by first | simpa using c3 | (simp at c3 ⊢; omega)
    obtain rfl := Option.some.inj H
    go_enter Try.func36, Try.ntmps36
    go_wp2
    go_ret
    exact ⟨by first | rfl | (simp [errW_none, errW_some] <;> rfl) | (simp [*, errW_none, errW_some] <;> rfl), by repeat (first | (with_reducible first | exact HB.out | apply below_alloc | apply pw_below_drewN | apply below_drew1) | exact HB.out)⟩

end Go.Proofs.Ytgcagmmghckbbaa.A

namespace Go.Proofs.Ytgcagmmghckbbaa.A
open Go.RowKit Go.Proofs.YtgcagmmghckbbaaW.PrintWords Go.Proofs.YtgcagmmghckbbaaW.PrintLast Go.Proofs.YtgcagmmghckbbaaW.PrintMore
attribute [local go_sem] max2_int min2_int max_two min_two max_three min_three max_four min_four   -- for this text's walks alone
set_option linter.unusedVariables false
set_option linter.unusedSimpArgs false

def laws_FnExactIsCorrectLayout.f (k : Nat) (l0 : List (S23)) (a1 : Int) (a2 : Int) (l3 : List (S78)) : Option (Bool) := (laws_szTileS.f l0 1048576).bind fun t535 => (if t535 < 0 then (some true) else ((laws_szSetS.f l3 t535).bind fun t536 => (if t536 < 0 then (some true) else ((laws_toTileS.f k l0).bind fun t537 => ((laws_toSetS.f k l3).bind fun t540 => ((spec_IsCorrectLayout.f k t537 a1 a2 t540).bind fun t543 => ((laws_toTileS.f k l0).bind fun t544 => ((laws_toSetS.f k l3).bind fun t547 => ((impl_IsCorrectLayout.f k t544 a1 a2 t547).bind fun t550 => (if (t550 != t543) = true then (some false) else ((laws_toTileS.f k l0).bind fun t551 => ((laws_eqTileS.f k t544 t551).bind fun t554 => (if t554 = true then ((laws_toSetS.f k l3).bind fun t555 => ((laws_eqSetS.f k t547 t555).bind fun t558 => (if t558 = true then (some true) else (some false)))) else (some false))))))))))))))
set_option maxHeartbeats 8000000 in
set_option maxRecDepth 100000 in
theorem laws_FnExactIsCorrectLayout.calls (k : Nat) (A0 : Option Addr) (c0 : Nat) (l0 : List (S23)) (a1 : Int) (a2 : Int) (A3 : Option Addr) (c3 : Nat) (l3 : List (S78)) (r : Bool) (w : World) (hr0 : Kd.C k23 w A0 l0.length l0) (hc0 : l0.length ≤ c0) (hr3 : Kd.C k78 w A3 l3.length l3) (hc3 : l3.length ≤ c3) (h : laws_FnExactIsCorrectLayout.f k l0 a1 a2 l3 = some r) :
    Calls Try.prog 7 #[.slice A0 l0.length c0, .int .i64 a1, .int .i64 a2, .slice A3 l3.length c3] w fun e w' => e = .returned (.bool r) ∧ Below w.heap.size w w' := by
  have HR0 := Aside0.mk hr0
  have HC0 := Aside0.mk hc0
  clear hr0 hc0
  have HR3 := Aside0.mk hr3
  have HC3 := Aside0.mk hc3
  clear hr3 hc3
  have HB := Aside0.mk (Below.refl w.heap.size w)
  have H : ((laws_szTileS.f l0 1048576).bind fun t535 => (if t535 < 0 then (some true) else ((laws_szSetS.f l3 t535).bind fun t536 => (if t536 < 0 then (some true) else ((laws_toTileS.f k l0).bind fun t537 => ((laws_toSetS.f k l3).bind fun t540 => ((spec_IsCorrectLayout.f k t537 a1 a2 t540).bind fun t543 => ((laws_toTileS.f k l0).bind fun t544 => ((laws_toSetS.f k l3).bind fun t547 => ((impl_IsCorrectLayout.f k t544 a1 a2 t547).bind fun t550 => (if (t550 != t543) = true then (some false) else ((laws_toTileS.f k l0).bind fun t551 => ((laws_eqTileS.f k t544 t551).bind fun t554 => (if t554 = true then ((laws_toSetS.f k l3).bind fun t555 => ((laws_eqSetS.f k t547 t555).bind fun t558 => (if t558 = true then (some true) else (some false)))) else (some false))))))))))))))) = some r := h
  clear h
  replace H := Option.bind_eq_some_iff.mp H
  obtain ⟨t535, A50, H⟩ := H
  replace H : (if t535 < 0 then (some true) else ((laws_szSetS.f l3 t535).bind fun t536 => (if t536 < 0 then (some true) else ((laws_toTileS.f k l0).bind fun t537 => ((laws_toSetS.f k l3).bind fun t540 => ((spec_IsCorrectLayout.f k t537 a1 a2 t540).bind fun t543 => ((laws_toTileS.f k l0).bind fun t544 => ((laws_toSetS.f k l3).bind fun t547 => ((impl_IsCorrectLayout.f k t544 a1 a2 t547).bind fun t550 => (if (t550 != t543) = true then (some false) else ((laws_toTileS.f k l0).bind fun t551 => ((laws_eqTileS.f k t544 t551).bind fun t554 => (if t554 = true then ((laws_toSetS.f k l3).bind fun t555 => ((laws_eqSetS.f k t547 t555).bind fun t558 => (if t558 = true then (some true) else (some false)))) else (some false)))))))))))))) = some r := H
  have A5 := Aside0.mk A50
  clear A50
  have H0_ := Aside0.mk H
  clear H
  go_enter Try.func7, Try.ntmps7
  go_wp2_with (first | ((with_reducible refine gate_callee (f := 17) rfl ?_); refine goesL_ (some 16) rfl rfl Try.func17 (by kernel_rfl) rfl #[.slice A0 l0.length c0, .int .i64 1048576] rfl (by (try simp only [List.map_toArray, List.map_cons, List.map_nil]); first | done | rfl | (simp only [List.length_drop, List.length_take]; rfl)) ?_; (with_reducible refine (laws_szTileS.calls _ _ l0 1048576 t535 _ ?side1 ?side2 A5.out).mono ?_); (case side1 => repeat (first | exact HR0.out | (with_reducible refine Kd.C_alloc ?_ _) | (with_reducible refine Kd.C_drewN ?_ _) | (with_reducible refine Kd.C_drew ?_))); (case side2 => exact HC0.out); rintro e w' ⟨rfl, ⟨nd, rfl⟩⟩; refine ⟨_, rfl, ?_⟩; refine Stop0.out ?_))
  refine Stop0.mk ?_
  have H := H0_.out
  clear H0_
  by_cases c6 : t535 < 0
  · rw [if_pos c6] at H
    have c6b0 : decide (t535 < 0) = true := decide_eq_true c6
    clear c6
    obtain rfl := Option.some.inj H
    go_wp2
    go_ret
    exact ⟨by first | rfl | (simp [errW_none, errW_some] <;> rfl) | (simp [*, errW_none, errW_some] <;> rfl), by repeat (first | (with_reducible first | exact HB.out | apply below_alloc | apply pw_below_drewN | apply below_drew1) | exact HB.out)⟩
  · rw [if_neg c6] at H
    have c6b0 : decide (t535 < 0) = false := decide_eq_false c6
    clear c6
    replace H := Option.bind_eq_some_iff.mp H
    obtain ⟨t536, A70, H⟩ := H
    replace H : (if t536 < 0 then (some true) else ((laws_toTileS.f k l0).bind fun t537 => ((laws_toSetS.f k l3).bind fun t540 => ((spec_IsCorrectLayout.f k t537 a1 a2 t540).bind fun t543 => ((laws_toTileS.f k l0).bind fun t544 => ((laws_toSetS.f k l3).bind fun t547 => ((impl_IsCorrectLayout.f k t544 a1 a2 t547).bind fun t550 => (if (t550 != t543) = true then (some false) else ((laws_toTileS.f k l0).bind fun t551 => ((laws_eqTileS.f k t544 t551).bind fun t554 => (if t554 = true then ((laws_toSetS.f k l3).bind fun t555 => ((laws_eqSetS.f k t547 t555).bind fun t558 => (if t558 = true then (some true) else (some false)))) else (some false)))))))))))) = some r := H
    have A7 := Aside0.mk A70
    clear A70
    have H0_ := Aside0.mk H
    clear H
    go_wp2_with (first | ((with_reducible refine gate_callee (f := 32) rfl ?_); refine goesL_ (some 21) rfl rfl Try.func32 (by kernel_rfl) rfl #[.slice A3 l3.length c3, .int .i64 t535] rfl (by (try simp only [List.map_toArray, List.map_cons, List.map_nil]); first | done | rfl | (simp only [List.length_drop, List.length_take]; rfl)) ?_; (with_reducible refine (laws_szSetS.calls _ _ l3 t535 t536 _ ?side1 ?side2 A7.out).mono ?_); (case side1 => repeat (first | exact (Kd.C_below HR3.out HB.out) | (with_reducible refine Kd.C_alloc ?_ _) | (with_reducible refine Kd.C_drewN ?_ _) | (with_reducible refine Kd.C_drew ?_))); (case side2 => exact HC3.out); rintro e w' ⟨rfl, ⟨nd, rfl⟩⟩; refine ⟨_, rfl, ?_⟩; refine Stop0.out ?_))
    refine Stop0.mk ?_
    have H := H0_.out
    clear H0_
    by_cases c8 : t536 < 0
    · rw [if_pos c8] at H
      have c8b0 : decide (t536 < 0) = true := decide_eq_true c8
      clear c8
      obtain rfl := Option.some.inj H
      go_wp2
      go_ret
      exact ⟨by first | rfl | (simp [errW_none, errW_some] <;> rfl) | (simp [*, errW_none, errW_some] <;> rfl), by repeat (first | (with_reducible first | exact HB.out | apply below_alloc | apply pw_below_drewN | apply below_drew1) | exact HB.out)⟩
    · rw [if_neg c8] at H
      have c8b0 : decide (t536 < 0) = false := decide_eq_false c8
      clear c8
      replace H := Option.bind_eq_some_iff.mp H
      obtain ⟨t537, A90, H⟩ := H
      replace H : ((laws_toSetS.f k l3).bind fun t540 => ((spec_IsCorrectLayout.f k t537 a1 a2 t540).bind fun t543 => ((laws_toTileS.f k l0).bind fun t544 => ((laws_toSetS.f k l3).bind fun t547 => ((impl_IsCorrectLayout.f k t544 a1 a2 t547).bind fun t550 => (if (t550 != t543) = true then (some false) else ((laws_toTileS.f k l0).bind fun t551 => ((laws_eqTileS.f k t544 t551).bind fun t554 => (if t554 = true then ((laws_toSetS.f k l3).bind fun t555 => ((laws_eqSetS.f k t547 t555).bind fun t558 => (if t558 = true then (some true) else (some false)))) else (some false)))))))))) = some r := H
      have A9 := Aside0.mk A90
      clear A90
      have H0_ := Aside0.mk H
      clear H
      go_wp2_with (first | ((with_reducible refine gate_callee (f := 19) rfl ?_); refine goesL_ (some 25) rfl rfl Try.func19 (by kernel_rfl) rfl #[.slice A0 l0.length c0] rfl (by (try simp only [List.map_toArray, List.map_cons, List.map_nil]); first | done | rfl | (simp only [List.length_drop, List.length_take]; rfl)) ?_; (with_reducible refine (laws_toTileS.calls k _ _ l0 t537 _ ?side1 ?side2 A9.out).mono ?_); (case side1 => repeat (first | exact (Kd.C_below HR0.out HB.out) | (with_reducible refine Kd.C_alloc ?_ _) | (with_reducible refine Kd.C_drewN ?_ _) | (with_reducible refine Kd.C_drew ?_))); (case side2 => exact HC0.out); rintro e w10 ⟨v538, rfl, ho0, hb⟩; refine ⟨_, rfl, ?_⟩; have n0_ := Aside0.mk (Kd.R_lower ho0 (below_size (by repeat (first | (with_reducible first | exact HB.out | apply below_alloc | apply pw_below_drewN | apply below_drew1) | exact HB.out)))); have n1_ := Aside0.mk (below_step (by repeat (first | (with_reducible first | exact HB.out | apply below_alloc | apply pw_below_drewN | apply below_drew1) | exact HB.out)) hb); clear HB; have HO539 := n0_; have HB := n1_; clear n0_ n1_; (try clear hb); (try clear hb2); (try clear hk); (try clear hi); (try clear ho0); refine Stop0.out ?_))
      refine Stop0.mk ?_
      have H := H0_.out
      clear H0_
      replace H := Option.bind_eq_some_iff.mp H
      obtain ⟨t540, A110, H⟩ := H
      replace H : ((spec_IsCorrectLayout.f k t537 a1 a2 t540).bind fun t543 => ((laws_toTileS.f k l0).bind fun t544 => ((laws_toSetS.f k l3).bind fun t547 => ((impl_IsCorrectLayout.f k t544 a1 a2 t547).bind fun t550 => (if (t550 != t543) = true then (some false) else ((laws_toTileS.f k l0).bind fun t551 => ((laws_eqTileS.f k t544 t551).bind fun t554 => (if t554 = true then ((laws_toSetS.f k l3).bind fun t555 => ((laws_eqSetS.f k t547 t555).bind fun t558 => (if t558 = true then (some true) else (some false)))) else (some false))))))))) = some r := H
      have A11 := Aside0.mk A110
      clear A110
      have H0_ := Aside0.mk H
      clear H
      go_wp2_with (first | ((with_reducible refine gate_callee (f := 34) rfl ?_); refine goesL_ (some 29) rfl rfl Try.func34 (by kernel_rfl) rfl #[.slice A3 l3.length c3] rfl (by (try simp only [List.map_toArray, List.map_cons, List.map_nil]); first | done | rfl | (simp only [List.length_drop, List.length_take]; rfl)) ?_; (with_reducible refine (laws_toSetS.calls k _ _ l3 t540 _ ?side1 ?side2 A11.out).mono ?_); (case side1 => repeat (first | exact (Kd.C_below HR3.out HB.out) | (with_reducible refine Kd.C_alloc ?_ _) | (with_reducible refine Kd.C_drewN ?_ _) | (with_reducible refine Kd.C_drew ?_))); (case side2 => exact HC3.out); rintro e w12 ⟨v541, rfl, ho0, hb⟩; refine ⟨_, rfl, ?_⟩; have n0_ := Aside0.mk (Kd.R_below (by (with_reducible repeat (first | apply Kd.R_alloc | apply Kd.R_drewN | apply Kd.R_drew)); exact HO539.out) hb); have n1_ := Aside0.mk (Kd.R_lower ho0 (below_size (by repeat (first | (with_reducible first | exact HB.out | apply below_alloc | apply pw_below_drewN | apply below_drew1) | exact HB.out)))); have n2_ := Aside0.mk (below_step (by repeat (first | (with_reducible first | exact HB.out | apply below_alloc | apply pw_below_drewN | apply below_drew1) | exact HB.out)) hb); clear HO539; clear HB; have HO539 := n0_; have HO542 := n1_; have HB := n2_; clear n0_ n1_ n2_; (try clear hb); (try clear hb2); (try clear hk); (try clear hi); (try clear ho0); refine Stop0.out ?_))
      refine Stop0.mk ?_
      have H := H0_.out
      clear H0_
      replace H := Option.bind_eq_some_iff.mp H
      obtain ⟨t543, A130, H⟩ := H
      replace H : ((laws_toTileS.f k l0).bind fun t544 => ((laws_toSetS.f k l3).bind fun t547 => ((impl_IsCorrectLayout.f k t544 a1 a2 t547).bind fun t550 => (if (t550 != t543) = true then (some false) else ((laws_toTileS.f k l0).bind fun t551 => ((laws_eqTileS.f k t544 t551).bind fun t554 => (if t554 = true then ((laws_toSetS.f k l3).bind fun t555 => ((laws_eqSetS.f k t547 t555).bind fun t558 => (if t558 = true then (some true) else (some false)))) else (some false)))))))) = some r := H
      have A13 := Aside0.mk A130
      clear A130
      have H0_ := Aside0.mk H
      clear H
      obtain ⟨Ao14, co14, eo14⟩ := Kd.R_slice HO539.out
      subst eo14
      obtain ⟨Ao15, co15, eo15⟩ := Kd.R_slice HO542.out
      subst eo15
      go_wp2_with (first | ((with_reducible refine gate_callee (f := 33) rfl ?_); refine goesL_ (some 30) rfl rfl Try.func33 (by kernel_rfl) rfl #[.slice Ao14 t537.length co14, .int .i64 a1, .int .i64 a2, .slice Ao15 t540.length co15] rfl (by (try simp only [List.map_toArray, List.map_cons, List.map_nil]); first | done | rfl | (simp only [List.length_drop, List.length_take]; rfl)) ?_; (with_reducible refine (spec_IsCorrectLayout.calls k _ _ t537 a1 a2 _ _ t540 t543 _ ?side1 ?side2 ?side3 ?side4 A13.out).mono ?_); (case side1 => repeat (first | exact (Kd.R_reads' HO539.out).2.2 | (with_reducible refine Kd.C_alloc ?_ _) | (with_reducible refine Kd.C_drewN ?_ _) | (with_reducible refine Kd.C_drew ?_))); (case side2 => exact (Kd.R_reads' HO539.out).2.1); (case side3 => repeat (first | exact (Kd.R_reads' HO542.out).2.2 | (with_reducible refine Kd.C_alloc ?_ _) | (with_reducible refine Kd.C_drewN ?_ _) | (with_reducible refine Kd.C_drew ?_))); (case side4 => exact (Kd.R_reads' HO542.out).2.1); rintro e w16 ⟨rfl, hb⟩; refine ⟨_, rfl, ?_⟩; have n0_ := Aside0.mk (Kd.R_below (by (with_reducible repeat (first | apply Kd.R_alloc | apply Kd.R_drewN | apply Kd.R_drew)); exact HO539.out) hb); have n1_ := Aside0.mk (Kd.R_below (by (with_reducible repeat (first | apply Kd.R_alloc | apply Kd.R_drewN | apply Kd.R_drew)); exact HO542.out) hb); have n2_ := Aside0.mk (below_step (by repeat (first | (with_reducible first | exact HB.out | apply below_alloc | apply pw_below_drewN | apply below_drew1) | exact HB.out)) hb); clear HO539; clear HO542; clear HB; have HO539 := n0_; have HO542 := n1_; have HB := n2_; clear n0_ n1_ n2_; (try clear hb); (try clear hb2); (try clear hk); (try clear hi); refine Stop0.out ?_))
      refine Stop0.mk ?_
      have H := H0_.out
      clear H0_
      replace H := Option.bind_eq_some_iff.mp H
      obtain ⟨t544, A170, H⟩ := H
      replace H : ((laws_toSetS.f k l3).bind fun t547 => ((impl_IsCorrectLayout.f k t544 a1 a2 t547).bind fun t550 => (if (t550 != t543) = true then (some false) else ((laws_toTileS.f k l0).bind fun t551 => ((laws_eqTileS.f k t544 t551).bind fun t554 => (if t554 = true then ((laws_toSetS.f k l3).bind fun t555 => ((laws_eqSetS.f k t547 t555).bind fun t558 => (if t558 = true then (some true) else (some false)))) else (some false))))))) = some r := H
      have A17 := Aside0.mk A170
      clear A170
      have H0_ := Aside0.mk H
      clear H
      go_wp2_with (first | ((with_reducible refine gate_callee (f := 19) rfl ?_); refine goesL_ (some 32) rfl rfl Try.func19 (by kernel_rfl) rfl #[.slice A0 l0.length c0] rfl (by (try simp only [List.map_toArray, List.map_cons, List.map_nil]); first | done | rfl | (simp only [List.length_drop, List.length_take]; rfl)) ?_; (with_reducible refine (laws_toTileS.calls k _ _ l0 t544 _ ?side1 ?side2 A17.out).mono ?_); (case side1 => repeat (first | exact (Kd.C_below HR0.out HB.out) | (with_reducible refine Kd.C_alloc ?_ _) | (with_reducible refine Kd.C_drewN ?_ _) | (with_reducible refine Kd.C_drew ?_))); (case side2 => exact HC0.out); rintro e w18 ⟨v545, rfl, ho0, hb⟩; refine ⟨_, rfl, ?_⟩; have n0_ := Aside0.mk (Kd.R_elder' (by (with_reducible repeat (first | apply Kd.R_alloc | apply Kd.R_drewN | apply Kd.R_drew)); exact HO539.out) (Kd.R_base ho0) hb); have n1_ := Aside0.mk (Kd.R_below (by (with_reducible repeat (first | apply Kd.R_alloc | apply Kd.R_drewN | apply Kd.R_drew)); exact HO542.out) hb); have n2_ := Aside0.mk (Kd.R_lower (Kd.R_new' ho0 (Kd.R_lt (by (with_reducible repeat (first | apply Kd.R_alloc | apply Kd.R_drewN | apply Kd.R_drew)); exact HO539.out))) (below_size (by repeat (first | (with_reducible first | exact HB.out | apply below_alloc | apply pw_below_drewN | apply below_drew1) | exact HB.out)))); have n3_ := Aside0.mk (below_step (by repeat (first | (with_reducible first | exact HB.out | apply below_alloc | apply pw_below_drewN | apply below_drew1) | exact HB.out)) hb); clear HO539; clear HO542; clear HB; have HO539 := n0_; have HO542 := n1_; have HO546 := n2_; have HB := n3_; clear n0_ n1_ n2_ n3_; (try clear hb); (try clear hb2); (try clear hk); (try clear hi); (try clear ho0); refine Stop0.out ?_))
      refine Stop0.mk ?_
      have H := H0_.out
      clear H0_
      replace H := Option.bind_eq_some_iff.mp H
      obtain ⟨t547, A190, H⟩ := H
      replace H : ((impl_IsCorrectLayout.f k t544 a1 a2 t547).bind fun t550 => (if (t550 != t543) = true then (some false) else ((laws_toTileS.f k l0).bind fun t551 => ((laws_eqTileS.f k t544 t551).bind fun t554 => (if t554 = true then ((laws_toSetS.f k l3).bind fun t555 => ((laws_eqSetS.f k t547 t555).bind fun t558 => (if t558 = true then (some true) else (some false)))) else (some false)))))) = some r := H
      have A19 := Aside0.mk A190
      clear A190
      have H0_ := Aside0.mk H
      clear H
      go_wp2_with (first | ((with_reducible refine gate_callee (f := 34) rfl ?_); refine goesL_ (some 34) rfl rfl Try.func34 (by kernel_rfl) rfl #[.slice A3 l3.length c3] rfl (by (try simp only [List.map_toArray, List.map_cons, List.map_nil]); first | done | rfl | (simp only [List.length_drop, List.length_take]; rfl)) ?_; (with_reducible refine (laws_toSetS.calls k _ _ l3 t547 _ ?side1 ?side2 A19.out).mono ?_); (case side1 => repeat (first | exact (Kd.C_below HR3.out HB.out) | (with_reducible refine Kd.C_alloc ?_ _) | (with_reducible refine Kd.C_drewN ?_ _) | (with_reducible refine Kd.C_drew ?_))); (case side2 => exact HC3.out); rintro e w20 ⟨v548, rfl, ho0, hb⟩; refine ⟨_, rfl, ?_⟩; have n0_ := Aside0.mk (Kd.R_below (by (with_reducible repeat (first | apply Kd.R_alloc | apply Kd.R_drewN | apply Kd.R_drew)); exact HO539.out) hb); have n1_ := Aside0.mk (Kd.R_elder' (by (with_reducible repeat (first | apply Kd.R_alloc | apply Kd.R_drewN | apply Kd.R_drew)); exact HO542.out) (Kd.R_base ho0) hb); have n2_ := Aside0.mk (Kd.R_below (by (with_reducible repeat (first | apply Kd.R_alloc | apply Kd.R_drewN | apply Kd.R_drew)); exact HO546.out) hb); have n3_ := Aside0.mk (Kd.R_lower (Kd.R_new' ho0 (Kd.R_lt (by (with_reducible repeat (first | apply Kd.R_alloc | apply Kd.R_drewN | apply Kd.R_drew)); exact HO542.out))) (below_size (by repeat (first | (with_reducible first | exact HB.out | apply below_alloc | apply pw_below_drewN | apply below_drew1) | exact HB.out)))); have n4_ := Aside0.mk (below_step (by repeat (first | (with_reducible first | exact HB.out | apply below_alloc | apply pw_below_drewN | apply below_drew1) | exact HB.out)) hb); clear HO539; clear HO542; clear HO546; clear HB; have HO539 := n0_; have HO542 := n1_; have HO546 := n2_; have HO549 := n3_; have HB := n4_; clear n0_ n1_ n2_ n3_ n4_; (try clear hb); (try clear hb2); (try clear hk); (try clear hi); (try clear ho0); refine Stop0.out ?_))
      refine Stop0.mk ?_
      have H := H0_.out
      clear H0_
      replace H := Option.bind_eq_some_iff.mp H
      obtain ⟨t550, A210, H⟩ := H
      replace H : (if (t550 != t543) = true then (some false) else ((laws_toTileS.f k l0).bind fun t551 => ((laws_eqTileS.f k t544 t551).bind fun t554 => (if t554 = true then ((laws_toSetS.f k l3).bind fun t555 => ((laws_eqSetS.f k t547 t555).bind fun t558 => (if t558 = true then (some true) else (some false)))) else (some false))))) = some r := H
      have A21 := Aside0.mk A210
      clear A210
      have H0_ := Aside0.mk H
      clear H
      obtain ⟨Ao22, co22, eo22⟩ := Kd.R_slice HO546.out
      subst eo22
      obtain ⟨Ao23, co23, eo23⟩ := Kd.R_slice HO549.out
      subst eo23
      go_wp2_with (first | ((with_reducible refine gate_callee (f := 35) rfl ?_); refine goesL_ (some 39) rfl rfl Try.func35 (by kernel_rfl) rfl #[.slice Ao22 t544.length co22, .int .i64 a1, .int .i64 a2, .slice Ao23 t547.length co23] rfl (by (try simp only [List.map_toArray, List.map_cons, List.map_nil]); first | done | rfl | (simp only [List.length_drop, List.length_take]; rfl)) ?_; (with_reducible refine (impl_IsCorrectLayout.calls k _ _ t544 a1 a2 _ _ t547 t550 _ ?side1 ?side2 ?side3 ?side4 A21.out).mono ?_); (case side1 => repeat (first | exact (Kd.R_reads' HO546.out).2.2 | (with_reducible refine Kd.C_alloc ?_ _) | (with_reducible refine Kd.C_drewN ?_ _) | (with_reducible refine Kd.C_drew ?_))); (case side2 => exact (Kd.R_reads' HO546.out).2.1); (case side3 => repeat (first | exact (Kd.R_reads' HO549.out).2.2 | (with_reducible refine Kd.C_alloc ?_ _) | (with_reducible refine Kd.C_drewN ?_ _) | (with_reducible refine Kd.C_drew ?_))); (case side4 => exact (Kd.R_reads' HO549.out).2.1); rintro e w24 ⟨rfl, hb⟩; refine ⟨_, rfl, ?_⟩; have n0_ := Aside0.mk (Kd.R_below (by (with_reducible repeat (first | apply Kd.R_alloc | apply Kd.R_drewN | apply Kd.R_drew)); exact HO539.out) hb); have n1_ := Aside0.mk (Kd.R_below (by (with_reducible repeat (first | apply Kd.R_alloc | apply Kd.R_drewN | apply Kd.R_drew)); exact HO542.out) hb); have n2_ := Aside0.mk (Kd.R_below (by (with_reducible repeat (first | apply Kd.R_alloc | apply Kd.R_drewN | apply Kd.R_drew)); exact HO546.out) hb); have n3_ := Aside0.mk (Kd.R_below (by (with_reducible repeat (first | apply Kd.R_alloc | apply Kd.R_drewN | apply Kd.R_drew)); exact HO549.out) hb); have n4_ := Aside0.mk (below_step (by repeat (first | (with_reducible first | exact HB.out | apply below_alloc | apply pw_below_drewN | apply below_drew1) | exact HB.out)) hb); clear HO539; clear HO542; clear HO546; clear HO549; clear HB; have HO539 := n0_; have HO542 := n1_; have HO546 := n2_; have HO549 := n3_; have HB := n4_; clear n0_ n1_ n2_ n3_ n4_; (try clear hb); (try clear hb2); (try clear hk); (try clear hi); refine Stop0.out ?_))
      refine Stop0.mk ?_
      have H := H0_.out
      clear H0_
      by_cases c25 : (t550 != t543) = true
      · rw [if_pos c25] at H
        have c25b0 : (t550 != t543) = true := c25
        (try (have c25b1 : decide (t550 = t543) = false := by simpa using c25))
        (try (have c25b2 : (t550 == t543) = false := by simpa using c25))
        (try (have c25b3 : ¬ (t550 = t543) := by simpa using c25))
        clear c25
        obtain rfl := Option.some.inj H
        go_wp2
        go_ret
        exact ⟨by first | rfl | (simp [errW_none, errW_some] <;> rfl) | (simp [*, errW_none, errW_some] <;> rfl), by repeat (first | (with_reducible first | exact HB.out | apply below_alloc | apply pw_below_drewN | apply below_drew1) | exact HB.out)⟩
      · rw [if_neg c25] at H
        have c25b0 : (t550 != t543) = false := by simpa using c25
        (try (have c25b1 : decide (t550 = t543) = true := by simpa using c25))
        (try (have c25b2 : (t550 == t543) = true := by simpa using c25))
        clear c25
        replace H := Option.bind_eq_some_iff.mp H
        obtain ⟨t551, A260, H⟩ := H
        replace H : ((laws_eqTileS.f k t544 t551).bind fun t554 => (if t554 = true then ((laws_toSetS.f k l3).bind fun t555 => ((laws_eqSetS.f k t547 t555).bind fun t558 => (if t558 = true then (some true) else (some false)))) else (some false))) = some r := H
        have A26 := Aside0.mk A260
        clear A260
        have H0_ := Aside0.mk H
        clear H
        go_wp2_with (first | ((with_reducible refine gate_callee (f := 19) rfl ?_); refine goesL_ (some 45) rfl rfl Try.func19 (by kernel_rfl) rfl #[.slice A0 l0.length c0] rfl (by (try simp only [List.map_toArray, List.map_cons, List.map_nil]); first | done | rfl | (simp only [List.length_drop, List.length_take]; rfl)) ?_; (with_reducible refine (laws_toTileS.calls k _ _ l0 t551 _ ?side1 ?side2 A26.out).mono ?_); (case side1 => repeat (first | exact (Kd.C_below HR0.out HB.out) | (with_reducible refine Kd.C_alloc ?_ _) | (with_reducible refine Kd.C_drewN ?_ _) | (with_reducible refine Kd.C_drew ?_))); (case side2 => exact HC0.out); rintro e w27 ⟨v552, rfl, ho0, hb⟩; refine ⟨_, rfl, ?_⟩; have n0_ := Aside0.mk (Kd.R_elder' (by (with_reducible repeat (first | apply Kd.R_alloc | apply Kd.R_drewN | apply Kd.R_drew)); exact HO539.out) (Kd.R_base ho0) hb); have n1_ := Aside0.mk (Kd.R_below (by (with_reducible repeat (first | apply Kd.R_alloc | apply Kd.R_drewN | apply Kd.R_drew)); exact HO542.out) hb); have n2_ := Aside0.mk (Kd.R_elder' (by (with_reducible repeat (first | apply Kd.R_alloc | apply Kd.R_drewN | apply Kd.R_drew)); exact HO546.out) (Kd.R_base ho0) hb); have n3_ := Aside0.mk (Kd.R_below (by (with_reducible repeat (first | apply Kd.R_alloc | apply Kd.R_drewN | apply Kd.R_drew)); exact HO549.out) hb); have n4_ := Aside0.mk (Kd.R_lower (Kd.R_new' (Kd.R_new' ho0 (Kd.R_lt (by (with_reducible repeat (first | apply Kd.R_alloc | apply Kd.R_drewN | apply Kd.R_drew)); exact HO539.out))) (Kd.R_lt (by (with_reducible repeat (first | apply Kd.R_alloc | apply Kd.R_drewN | apply Kd.R_drew)); exact HO546.out))) (below_size (by repeat (first | (with_reducible first | exact HB.out | apply below_alloc | apply pw_below_drewN | apply below_drew1) | exact HB.out)))); have n5_ := Aside0.mk (below_step (by repeat (first | (with_reducible first | exact HB.out | apply below_alloc | apply pw_below_drewN | apply below_drew1) | exact HB.out)) hb); clear HO539; clear HO542; clear HO546; clear HO549; clear HB; have HO539 := n0_; have HO542 := n1_; have HO546 := n2_; have HO549 := n3_; have HO553 := n4_; have HB := n5_; clear n0_ n1_ n2_ n3_ n4_ n5_; (try clear hb); (try clear hb2); (try clear hk); (try clear hi); (try clear ho0); refine Stop0.out ?_))
        refine Stop0.mk ?_
        have H := H0_.out
        clear H0_
        replace H := Option.bind_eq_some_iff.mp H
        obtain ⟨t554, A280, H⟩ := H
        replace H : (if t554 = true then ((laws_toSetS.f k l3).bind fun t555 => ((laws_eqSetS.f k t547 t555).bind fun t558 => (if t558 = true then (some true) else (some false)))) else (some false)) = some r := H
        have A28 := Aside0.mk A280
        clear A280
        have H0_ := Aside0.mk H
        clear H
        obtain ⟨Ao29, co29, eo29⟩ := Kd.R_slice HO553.out
        subst eo29
        go_wp2_with (first | ((with_reducible refine gate_callee (f := 21) rfl ?_); refine goesL_ (some 46) rfl rfl Try.func21 (by kernel_rfl) rfl #[.slice Ao22 t544.length co22, .slice Ao29 t551.length co29] rfl (by (try simp only [List.map_toArray, List.map_cons, List.map_nil]); first | done | rfl | (simp only [List.length_drop, List.length_take]; rfl)) ?_; (with_reducible refine (laws_eqTileS.calls k _ _ t544 _ _ t551 t554 _ ?side1 ?side2 ?side3 ?side4 A28.out).mono ?_); (case side1 => repeat (first | exact (Kd.R_reads' HO546.out).2.2 | (with_reducible refine Kd.C_alloc ?_ _) | (with_reducible refine Kd.C_drewN ?_ _) | (with_reducible refine Kd.C_drew ?_))); (case side2 => exact (Kd.R_reads' HO546.out).2.1); (case side3 => repeat (first | exact (Kd.R_reads' HO553.out).2.2 | (with_reducible refine Kd.C_alloc ?_ _) | (with_reducible refine Kd.C_drewN ?_ _) | (with_reducible refine Kd.C_drew ?_))); (case side4 => exact (Kd.R_reads' HO553.out).2.1); rintro e w30 ⟨rfl, hb⟩; refine ⟨_, rfl, ?_⟩; have n0_ := Aside0.mk (Kd.R_below (by (with_reducible repeat (first | apply Kd.R_alloc | apply Kd.R_drewN | apply Kd.R_drew)); exact HO539.out) hb); have n1_ := Aside0.mk (Kd.R_below (by (with_reducible repeat (first | apply Kd.R_alloc | apply Kd.R_drewN | apply Kd.R_drew)); exact HO542.out) hb); have n2_ := Aside0.mk (Kd.R_below (by (with_reducible repeat (first | apply Kd.R_alloc | apply Kd.R_drewN | apply Kd.R_drew)); exact HO546.out) hb); have n3_ := Aside0.mk (Kd.R_below (by (with_reducible repeat (first | apply Kd.R_alloc | apply Kd.R_drewN | apply Kd.R_drew)); exact HO549.out) hb); have n4_ := Aside0.mk (Kd.R_below (by (with_reducible repeat (first | apply Kd.R_alloc | apply Kd.R_drewN | apply Kd.R_drew)); exact HO553.out) hb); have n5_ := Aside0.mk (below_step (by repeat (first | (with_reducible first | exact HB.out | apply below_alloc | apply pw_below_drewN | apply below_drew1) | exact HB.out)) hb); clear HO539; clear HO542; clear HO546; clear HO549; clear HO553; clear HB; have HO539 := n0_; have HO542 := n1_; have HO546 := n2_; have HO549 := n3_; have HO553 := n4_; have HB := n5_; clear n0_ n1_ n2_ n3_ n4_ n5_; (try clear hb); (try clear hb2); (try clear hk); (try clear hi); refine Stop0.out ?_))
        refine Stop0.mk ?_
        have H := H0_.out
        clear H0_
        by_cases c31 : t554 = true
        · subst c31
          have H1 : ((laws_toSetS.f k l3).bind fun t555 => ((laws_eqSetS.f k t547 t555).bind fun t558 => (if t558 = true then (some true) else (some false)))) = some r := by rw [if_pos rfl] at H; exact H
          clear H
          have H := H1
          clear H1
          replace H := Option.bind_eq_some_iff.mp H
          obtain ⟨t555, A320, H⟩ := H
          replace H : ((laws_eqSetS.f k t547 t555).bind fun t558 => (if t558 = true then (some true) else (some false))) = some r := H
          have A32 := Aside0.mk A320
          clear A320
          have H0_ := Aside0.mk H
          clear H
          go_wp2_with (first | ((with_reducible refine gate_callee (f := 34) rfl ?_); refine goesL_ (some 50) rfl rfl Try.func34 (by kernel_rfl) rfl #[.slice A3 l3.length c3] rfl (by (try simp only [List.map_toArray, List.map_cons, List.map_nil]); first | done | rfl | (simp only [List.length_drop, List.length_take]; rfl)) ?_; (with_reducible refine (laws_toSetS.calls k _ _ l3 t555 _ ?side1 ?side2 A32.out).mono ?_); (case side1 => repeat (first | exact (Kd.C_below HR3.out HB.out) | (with_reducible refine Kd.C_alloc ?_ _) | (with_reducible refine Kd.C_drewN ?_ _) | (with_reducible refine Kd.C_drew ?_))); (case side2 => exact HC3.out); rintro e w33 ⟨v556, rfl, ho0, hb⟩; refine ⟨_, rfl, ?_⟩; have n0_ := Aside0.mk (Kd.R_below (by (with_reducible repeat (first | apply Kd.R_alloc | apply Kd.R_drewN | apply Kd.R_drew)); exact HO539.out) hb); have n1_ := Aside0.mk (Kd.R_elder' (by (with_reducible repeat (first | apply Kd.R_alloc | apply Kd.R_drewN | apply Kd.R_drew)); exact HO542.out) (Kd.R_base ho0) hb); have n2_ := Aside0.mk (Kd.R_below (by (with_reducible repeat (first | apply Kd.R_alloc | apply Kd.R_drewN | apply Kd.R_drew)); exact HO546.out) hb); have n3_ := Aside0.mk (Kd.R_elder' (by (with_reducible repeat (first | apply Kd.R_alloc | apply Kd.R_drewN | apply Kd.R_drew)); exact HO549.out) (Kd.R_base ho0) hb); have n4_ := Aside0.mk (Kd.R_below (by (with_reducible repeat (first | apply Kd.R_alloc | apply Kd.R_drewN | apply Kd.R_drew)); exact HO553.out) hb); have n5_ := Aside0.mk (Kd.R_lower (Kd.R_new' (Kd.R_new' ho0 (Kd.R_lt (by (with_reducible repeat (first | apply Kd.R_alloc | apply Kd.R_drewN | apply Kd.R_drew)); exact HO542.out))) (Kd.R_lt (by (with_reducible repeat (first | apply Kd.R_alloc | apply Kd.R_drewN | apply Kd.R_drew)); exact HO549.out))) (below_size (by repeat (first | (with_reducible first | exact HB.out | apply below_alloc | apply pw_below_drewN | apply below_drew1) | exact HB.out)))); have n6_ := Aside0.mk (below_step (by repeat (first | (with_reducible first | exact HB.out | apply below_alloc | apply pw_below_drewN | apply below_drew1) | exact HB.out)) hb); clear HO539; clear HO542; clear HO546; clear HO549; clear HO553; clear HB; have HO539 := n0_; have HO542 := n1_; have HO546 := n2_; have HO549 := n3_; have HO553 := n4_; have HO557 := n5_; have HB := n6_; clear n0_ n1_ n2_ n3_ n4_ n5_ n6_; (try clear hb); (try clear hb2); (try clear hk); (try clear hi); (try clear ho0); refine Stop0.out ?_))
          refine Stop0.mk ?_
          have H := H0_.out
          clear H0_
          replace H := Option.bind_eq_some_iff.mp H
          obtain ⟨t558, A340, H⟩ := H
          replace H : (if t558 = true then (some true) else (some false)) = some r := H
          have A34 := Aside0.mk A340
          clear A340
          have H0_ := Aside0.mk H
          clear H
          obtain ⟨Ao35, co35, eo35⟩ := Kd.R_slice HO557.out
          subst eo35
          go_wp2_with (first | ((with_reducible refine gate_callee (f := 36) rfl ?_); refine goesL_ (some 51) rfl rfl Try.func36 (by kernel_rfl) rfl #[.slice Ao23 t547.length co23, .slice Ao35 t555.length co35] rfl (by (try simp only [List.map_toArray, List.map_cons, List.map_nil]); first | done | rfl | (simp only [List.length_drop, List.length_take]; rfl)) ?_; (with_reducible refine (laws_eqSetS.calls k _ _ t547 _ _ t555 t558 _ ?side1 ?side2 ?side3 ?side4 A34.out).mono ?_); (case side1 => repeat (first | exact (Kd.R_reads' HO549.out).2.2 | (with_reducible refine Kd.C_alloc ?_ _) | (with_reducible refine Kd.C_drewN ?_ _) | (with_reducible refine Kd.C_drew ?_))); (case side2 => exact (Kd.R_reads' HO549.out).2.1); (case side3 => repeat (first | exact (Kd.R_reads' HO557.out).2.2 | (with_reducible refine Kd.C_alloc ?_ _) | (with_reducible refine Kd.C_drewN ?_ _) | (with_reducible refine Kd.C_drew ?_))); (case side4 => exact (Kd.R_reads' HO557.out).2.1); rintro e w36 ⟨rfl, hb⟩; refine ⟨_, rfl, ?_⟩; have n0_ := Aside0.mk (Kd.R_below (by (with_reducible repeat (first | apply Kd.R_alloc | apply Kd.R_drewN | apply Kd.R_drew)); exact HO539.out) hb); have n1_ := Aside0.mk (Kd.R_below (by (with_reducible repeat (first | apply Kd.R_alloc | apply Kd.R_drewN | apply Kd.R_drew)); exact HO542.out) hb); have n2_ := Aside0.mk (Kd.R_below (by (with_reducible repeat (first | apply Kd.R_alloc | apply Kd.R_drewN | apply Kd.R_drew)); exact HO546.out) hb); have n3_ := Aside0.mk (Kd.R_below (by (with_reducible repeat (first | apply Kd.R_alloc | apply Kd.R_drewN | apply Kd.R_drew)); exact HO549.out) hb); have n4_ := Aside0.mk (Kd.R_below (by (with_reducible repeat (first | apply Kd.R_alloc | apply Kd.R_drewN | apply Kd.R_drew)); exact HO553.out) hb); have n5_ := Aside0.mk (Kd.R_below (by (with_reducible repeat (first | apply Kd.R_alloc | apply Kd.R_drewN | apply Kd.R_drew)); exact HO557.out) hb); have n6_ := Aside0.mk (below_step (by repeat (first | (with_reducible first | exact HB.out | apply below_alloc | apply pw_below_drewN | apply below_drew1) | exact HB.out)) hb); clear HO539; clear HO542; clear HO546; clear HO549; clear HO553; clear HO557; clear HB; have HO539 := n0_; have HO542 := n1_; have HO546 := n2_; have HO549 := n3_; have HO553 := n4_; have HO557 := n5_; have HB := n6_; clear n0_ n1_ n2_ n3_ n4_ n5_ n6_; (try clear hb); (try clear hb2); (try clear hk); (try clear hi); refine Stop0.out ?_))
          refine Stop0.mk ?_
          have H := H0_.out
          clear H0_
          by_cases c37 : t558 = true
          · subst c37
            have H1 : (some true) = some r := by rw [if_pos rfl] at H; exact H
            clear H
            have H := H1
            clear H1
            obtain rfl := Option.some.inj H
            go_wp2
            go_ret
            exact ⟨by first | rfl | (simp [errW_none, errW_some] <;> rfl) | (simp [*, errW_none, errW_some] <;> rfl), by repeat (first | (with_reducible first | exact HB.out | apply below_alloc | apply pw_below_drewN | apply below_drew1) | exact HB.out)⟩
          · replace c37 := Bool.eq_false_iff.mpr c37
            subst c37
            have H1 : (some false) = some r := by rw [if_neg (show ¬ (false = true) by decide)] at H; exact H
            clear H
            have H := H1
            clear H1
            obtain rfl := Option.some.inj H
            go_wp2
            go_ret
            exact ⟨by first | rfl | (simp [errW_none, errW_some] <;> rfl) | (simp [*, errW_none, errW_some] <;> rfl), by repeat (first | (with_reducible first | exact HB.out | apply below_alloc | apply pw_below_drewN | apply below_drew1) | exact HB.out)⟩
        · replace c31 := Bool.eq_false_iff.mpr c31
          subst c31
          have H1 : (some false) = some r := by rw [if_neg (show ¬ (false = true) by decide)] at H; exact H
          clear H
          have H := H1
          clear H1
          obtain rfl := Option.some.inj H
          go_wp2
          go_ret
          exact ⟨by first | rfl | (simp [errW_none, errW_some] <;> rfl) | (simp [*, errW_none, errW_some] <;> rfl), by repeat (first | (with_reducible first | exact HB.out | apply below_alloc | apply pw_below_drewN | apply below_drew1) | exact HB.out)⟩

end Go.Proofs.Ytgcagmmghckbbaa.A

/- Arguments of a law opened as plain data, kind by kind: what can be read at a type is a value of its kind. -/
namespace Go.Proofs.Ytgcagmmghckbbaa.Opn
open Go.RowKit Go.Proofs.YtgcagmmghckbbaaW.PrintWords

/-- What reads at type t is a value of kind d, of which ok holds. -/
def Op {α : Type} (P : Program) (t : TypeId) (d : Kd α) (ok : α → Prop) : Prop :=
  ∀ (H : Type) (enc : TypeId × Value → H) (W : World) (fuel : Nat) (cs : List Value) (x : DataW H × List MemPlace),
    DataW.trod enc P W 0 (fun _ => true) true fuel t cs = some x → ∃ a : α, d.K W a cs ∧ ok a
/-- The same of a struct's fields from one on, which begins at cell o. -/
def OpF {α : Type} (P : Program) (o : Nat) (fs : List Field) (d : Kd α) (ok : α → Prop) : Prop :=
  ∀ (H : Type) (enc : TypeId × Value → H) (W : World) (fuel : Nat) (cs : List Value) (xs : List (DataW H × List MemPlace)), cs.length = o + d.sz →
    xs.length = fs.length → (∀ (i : Nat) (f : Field), fs[i]? = some f → DataW.trod enc P W 0 (fun _ => true) true fuel f.type ((cs.drop f.offset).take (P.cellsOf f.type)) = xs[i]?) → ∃ a : α, d.K W a (cs.drop o) ∧ ok a
def okInt (k : IntKind) (n : Int) : Prop := (Lit.int k n).wf = true
def okAll {α : Type} (ok : α → Prop) (l : List α) : Prop := l.length ≤ maxLen ∧ ∀ x ∈ l, ok x
def okTwo {α β : Type} (ok : α → Prop) (ok' : β → Prop) (x : α × β) : Prop := ok x.1 ∧ ok' x.2

theorem Op.int {P : Program} {t : TypeId} {k : IntKind} (ht : P.underlying t = some (.int k)) : Op P t (Kd.int k) (okInt k) := by
  intro H enc W fuel cs x h
  obtain ⟨n, rfl, _, hw⟩ := DataW.trod_int ht h
  exact ⟨n, rfl, hw⟩
theorem Op.iso {α β : Type} {P : Program} {t : TypeId} {d : Kd α} {ok : α → Prop} (h : Op P t d ok) (f : β → α) (g : α → β) (hfg : ∀ a, f (g a) = a) : Op P t (Kd.iso d f) (fun b => ok (f b)) := by
  intro H enc W fuel cs x hx
  obtain ⟨a, ha, hok⟩ := h H enc W fuel cs x hx
  refine ⟨g a, ?_, ?_⟩
  · show d.K W (f (g a)) cs
    rw [hfg]
    exact ha
  · show ok (f (g a))
    rw [hfg]
    exact hok
theorem list_of_lt {α : Type} {p : Nat → α → Prop} : ∀ n, (∀ i, i < n → ∃ a, p i a) → ∃ l : List α, l.length = n ∧ ∀ i a, l[i]? = some a → p i a
  | 0, _ => ⟨[], rfl, fun i a h => by simp at h⟩
  | n + 1, h => by
    obtain ⟨l, hl, hp⟩ := list_of_lt n (fun i hi => h i (by omega))
    obtain ⟨a, ha⟩ := h n (by omega)
    refine ⟨l ++ [a], by simp [hl], fun i b hb => ?_⟩
    by_cases hi : i < l.length
    · rw [List.getElem?_append_left hi] at hb
      exact hp i b hb
    · have hlt : i < (l ++ [a]).length := (List.getElem?_eq_some_iff.1 hb).1
      simp at hlt
      have : i = l.length := by omega
      subst this
      have hab : a = b := by simpa using hb
      subst hab
      rw [hl]
      exact ha
theorem Op.slice {α : Type} {P : Program} {t e : TypeId} {d : Kd α} {ok : α → Prop} (ht : P.underlying t = some (.slice e)) (hc : P.cellsOf e = d.sz) (h : Op P e d ok) :
    Op P t (Kd.slice e d) (okAll ok) := by
  intro H enc W fuel cs x hx
  rcases Deep.open_slice ht hx with ⟨rfl, _⟩ | ⟨a, len, cap, m, n, D, Pl, rfl, hb, hl, hm, hmm, _, hel⟩
  · exact ⟨[], ⟨none, 0, rfl, Nat.le_refl _, rfl, by simp, fun h => absurd h (by simp)⟩, by simp [okAll]⟩
  · rw [if_pos rfl] at hmm
    subst hmm
    obtain ⟨l, hlen, hl2⟩ := list_of_lt (p := fun i (y : α) => (∃ c, c.length = d.sz ∧ d.K W y c ∧ ∀ j u, c[j]? = some u → W.cell? (a.add (i * d.sz + j)) = some u) ∧ ok y) len (fun i hi => by
      obtain ⟨cs', h1, h2⟩ := hel i (by omega)
      obtain ⟨y, hy, hok⟩ := h H enc W n cs' _ h2
      obtain ⟨_, h3, h4⟩ := World.cells?_some h1
      refine ⟨y, ⟨cs', d.K_len hy, hy, fun j u hu => ?_⟩, hok⟩
      have hj : j < P.cellsOf e := by rw [← h3]; exact (List.getElem?_eq_some_iff.1 hu).1
      have h5 := h4 j hj
      rw [← hu, ← h5, hc, Addr.add_add])
    unfold maxLen at hm
    refine ⟨l, ⟨some a, m, by rw [hlen], by omega, rfl, by omega, fun _ => ⟨a, rfl, fun j p hj => (hl2 j p hj).1⟩⟩, by unfold maxLen; omega, fun y hy => ?_⟩
    obtain ⟨i, hi, rfl⟩ := List.getElem_of_mem hy
    exact (hl2 i _ (List.getElem?_eq_getElem hi)).2
theorem OpF.one {α : Type} {P : Program} {o : Nat} {f : Field} {d : Kd α} {ok : α → Prop} (ho : f.offset = o) (hc : P.cellsOf f.type = d.sz) (h : Op P f.type d ok) : OpF P o [f] d ok := by
  intro H enc W fuel cs xs hl hn hx
  match xs, hn with
  | [y], _ =>
  have hy := hx 0 f rfl
  simp only [List.getElem?_cons_zero] at hy
  rw [ho, hc, List.take_of_length_le (by simp; omega)] at hy
  exact h H enc W fuel _ _ hy
theorem OpF.cons {α β : Type} {P : Program} {o : Nat} {f : Field} {fs : List Field} {d : Kd α} {d' : Kd β} {ok : α → Prop} {ok' : β → Prop} (ho : f.offset = o) (hc : P.cellsOf f.type = d.sz) (h : Op P f.type d ok)
    (hr : OpF P (o + d.sz) fs d' ok') : OpF P o (f :: fs) (Kd.pair d d') (okTwo ok ok') := by
  intro H enc W fuel cs xs hl hn hx
  match xs, hn with
  | y :: ys, hn =>
  have hy := hx 0 f rfl
  have hys : ∀ (i : Nat) (f : Field), fs[i]? = some f → DataW.trod enc P W 0 (fun _ => true) true fuel f.type ((cs.drop f.offset).take (P.cellsOf f.type)) = ys[i]? := fun i g hg => by simpa using hx (i + 1) g (by simpa using hg)
  simp only [List.getElem?_cons_zero] at hy
  rw [ho, hc] at hy
  obtain ⟨a, ha, hok⟩ := h H enc W fuel _ _ hy
  obtain ⟨b, hb, hok'⟩ := hr H enc W fuel cs ys (by rw [hl]; show o + (d.sz + d'.sz) = _; omega) (by simpa using hn) hys
  refine ⟨(a, b), ⟨_, _, ?_, ha, hb⟩, hok, hok'⟩
  rw [← List.drop_drop, List.take_append_drop]
theorem Op.struct {α : Type} {P : Program} {t : TypeId} {fs : Array Field} {d : Kd α} {ok : α → Prop} (ht : P.underlying t = some (.struct fs)) (hc : P.cellsOf t = d.sz) (h : OpF P 0 fs.toList d ok) : Op P t d ok := by
  intro H enc W fuel cs x hx
  obtain ⟨xs, n, _, _, hl, hn, hxs⟩ := DataW.trod_struct ht hx
  obtain ⟨a, ha, hok⟩ := h H enc W n cs xs (by omega) (by simpa using hn) (fun i f hf => hxs i f (by simpa using hf))
  exact ⟨a, by simpa using ha, hok⟩
end Go.Proofs.Ytgcagmmghckbbaa.Opn

/- The plain statement of the law FnExactIsCorrectLayout, over numbers and lists alone, and how its arguments are opened. -/
namespace Go.Proofs.Ytgcagmmghckbbaa.A
open Go.RowKit Go.Proofs.YtgcagmmghckbbaaW.PrintWords Go.Proofs.YtgcagmmghckbbaaW.PrintLast Go.Proofs.YtgcagmmghckbbaaW.PrintMore
def ok23 (x : S23) : Prop := (Go.Proofs.Ytgcagmmghckbbaa.Opn.okTwo (Go.Proofs.Ytgcagmmghckbbaa.Opn.okInt .i64) (Go.Proofs.Ytgcagmmghckbbaa.Opn.okTwo (Go.Proofs.Ytgcagmmghckbbaa.Opn.okInt .i64) (Go.Proofs.Ytgcagmmghckbbaa.Opn.okTwo (Go.Proofs.Ytgcagmmghckbbaa.Opn.okInt .i64) (Go.Proofs.Ytgcagmmghckbbaa.Opn.okInt .i64)))) (x.f0, x.f1, x.f2, x.f3)
def ok78 (x : S78) : Prop := (Go.Proofs.Ytgcagmmghckbbaa.Opn.okTwo (Go.Proofs.Ytgcagmmghckbbaa.Opn.okInt .i64) (Go.Proofs.Ytgcagmmghckbbaa.Opn.okInt .i64)) (x.f0, x.f1)
theorem op2 : Go.Proofs.Ytgcagmmghckbbaa.Opn.Op Try.prog 2 (Kd.int .i64) (Go.Proofs.Ytgcagmmghckbbaa.Opn.okInt .i64) := Go.Proofs.Ytgcagmmghckbbaa.Opn.Op.int Try.underlying2
theorem op23 : Go.Proofs.Ytgcagmmghckbbaa.Opn.Op Try.prog 23 k23 ok23 := Go.Proofs.Ytgcagmmghckbbaa.Opn.Op.iso (Go.Proofs.Ytgcagmmghckbbaa.Opn.Op.struct Try.underlying23 (by kernel_rfl) (Go.Proofs.Ytgcagmmghckbbaa.Opn.OpF.cons rfl (by kernel_rfl) op2 (Go.Proofs.Ytgcagmmghckbbaa.Opn.OpF.cons rfl (by kernel_rfl) op2 (Go.Proofs.Ytgcagmmghckbbaa.Opn.OpF.cons rfl (by kernel_rfl) op2 (Go.Proofs.Ytgcagmmghckbbaa.Opn.OpF.one rfl (by kernel_rfl) op2))))) (fun x : S23 => (x.f0, x.f1, x.f2, x.f3)) (fun p => ⟨p.1, p.2.1, p.2.2.1, p.2.2.2⟩) (fun _ => rfl)
theorem op30 : Go.Proofs.Ytgcagmmghckbbaa.Opn.Op Try.prog 30 (Kd.slice 23 k23) (Go.Proofs.Ytgcagmmghckbbaa.Opn.okAll ok23) := Go.Proofs.Ytgcagmmghckbbaa.Opn.Op.slice Try.underlying30 (by kernel_rfl) op23
theorem op78 : Go.Proofs.Ytgcagmmghckbbaa.Opn.Op Try.prog 78 k78 ok78 := Go.Proofs.Ytgcagmmghckbbaa.Opn.Op.iso (Go.Proofs.Ytgcagmmghckbbaa.Opn.Op.struct Try.underlying78 (by kernel_rfl) (Go.Proofs.Ytgcagmmghckbbaa.Opn.OpF.cons rfl (by kernel_rfl) op2 (Go.Proofs.Ytgcagmmghckbbaa.Opn.OpF.one rfl (by kernel_rfl) op2))) (fun x : S78 => (x.f0, x.f1)) (fun p => ⟨p.1, p.2⟩) (fun _ => rfl)
theorem op48 : Go.Proofs.Ytgcagmmghckbbaa.Opn.Op Try.prog 48 (Kd.slice 78 k78) (Go.Proofs.Ytgcagmmghckbbaa.Opn.okAll ok78) := Go.Proofs.Ytgcagmmghckbbaa.Opn.Op.slice Try.underlying48 (by kernel_rfl) op78
def FnExactIsCorrectLayout.Pure : Prop := ∀ (a0 : List (S23)) (a1 : Int) (a2 : Int) (a3 : List (S78)), (Go.Proofs.Ytgcagmmghckbbaa.Opn.okAll ok23) a0 → (Go.Proofs.Ytgcagmmghckbbaa.Opn.okInt .i64) a1 → (Go.Proofs.Ytgcagmmghckbbaa.Opn.okInt .i64) a2 → (Go.Proofs.Ytgcagmmghckbbaa.Opn.okAll ok78) a3 → ∃ k, laws_FnExactIsCorrectLayout.f k a0 a1 a2 a3 = some true
end Go.Proofs.Ytgcagmmghckbbaa.A



/- Plain words on rounds: loops over a list by its index, in 'from some number of rounds on' form. No program in sight. -/
namespace Go.Proofs.YtgcagmmghckbbaaW.PrintMore
open Go.RowKit Go.Proofs.YtgcagmmghckbbaaW.PrintWords

theorem wrap_id {x : Int} (h0 : -9223372036854775808 ≤ x) (h1 : x ≤ 9223372036854775807) : wrap64 x = x := by unfold wrap64; omega
theorem wrap_succ (j : Nat) (h : j < 9223372036854775807) : wrap64 ((j : Int) + 1) = ((j + 1 : Nat) : Int) := by unfold wrap64; omega
theorem Ev.val {α : Type} {g : Nat → Option α} {r : α} (h : ∀ k, g k = some r) : Ev g r := ⟨0, fun k _ => h k⟩
theorem Ev.bindc {α β : Type} {g : Option α} {f : Nat → α → Option β} {a : α} {r : β} (h : g = some a) (k : Ev (fun n => f n a) r) : Ev (fun n => g.bind (f n)) r := by
  subst h
  exact k
theorem Ev.succ {α : Type} {g : Nat → Option α} {r : α} (h : Ev (fun k => g (k + 1)) r) : Ev g r := Ev.step (fun _ => rfl) h
/-- A loop over a list by its index: from place j on it comes to 'v' of its state and of what is left. -/
theorem ev_list {α σ β : Type} (xs : List α) (l : σ → Int → Nat → Option β) (v : σ → List α → β)
    (hd : ∀ s, Ev (l s (xs.length : Int)) (v s []))
    (hs : ∀ s (j : Nat) (h : j < xs.length), (∀ s', Ev (l s' ((j + 1 : Nat) : Int)) (v s' (xs.drop (j + 1)))) → Ev (l s (j : Int)) (v s (xs[j] :: xs.drop (j + 1)))) :
    ∀ (n j : Nat) (s : σ), j + n = xs.length → Ev (l s (j : Int)) (v s (xs.drop j)) := by
  intro n
  induction n with
  | zero =>
    intro j s h
    have : j = xs.length := by omega
    subst this
    rw [List.drop_length]
    exact hd s
  | succ n ih =>
    intro j s h
    have hj : j < xs.length := by omega
    rw [List.drop_eq_getElem_cons hj]
    exact hs s j hj (fun s' => ih (j + 1) s' (by omega))
theorem ev_list0 {α σ β : Type} (xs : List α) (l : σ → Int → Nat → Option β) (v : σ → List α → β)
    (hd : ∀ s, Ev (l s (xs.length : Int)) (v s []))
    (hs : ∀ s (j : Nat) (h : j < xs.length), (∀ s', Ev (l s' ((j + 1 : Nat) : Int)) (v s' (xs.drop (j + 1)))) → Ev (l s (j : Int)) (v s (xs[j] :: xs.drop (j + 1)))) (s : σ) :
    Ev (l s 0) (v s xs) := by
  have := ev_list xs l v hd hs xs.length 0 s (by omega)
  simpa using this
/-- The same with an invariant of the state and the place. -/
theorem ev_listI {α σ β : Type} (xs : List α) (I : σ → Nat → Prop) (l : σ → Int → Nat → Option β) (v : σ → List α → β)
    (hd : ∀ s, I s xs.length → Ev (l s (xs.length : Int)) (v s []))
    (hs : ∀ s (j : Nat) (h : j < xs.length), I s j → (∀ s', I s' (j + 1) → Ev (l s' ((j + 1 : Nat) : Int)) (v s' (xs.drop (j + 1)))) → Ev (l s (j : Int)) (v s (xs[j] :: xs.drop (j + 1)))) :
    ∀ (n j : Nat) (s : σ), j + n = xs.length → I s j → Ev (l s (j : Int)) (v s (xs.drop j)) := by
  intro n
  induction n with
  | zero =>
    intro j s h hi
    have : j = xs.length := by omega
    subst this
    rw [List.drop_length]
    exact hd s hi
  | succ n ih =>
    intro j s h hi
    have hj : j < xs.length := by omega
    rw [List.drop_eq_getElem_cons hj]
    exact hs s j hj hi (fun s' hi' => ih (j + 1) s' (by omega) hi')
/-- The same where the answer is known. -/
theorem ev_at {σ β : Type} (N : Nat) (I : σ → Nat → Prop) (r : β) (l : σ → Int → Nat → Option β)
    (hd : ∀ s, I s N → Ev (l s (N : Int)) r)
    (hs : ∀ s (j : Nat), j < N → I s j → ∃ s', I s' (j + 1) ∧ (Ev (l s' ((j + 1 : Nat) : Int)) r → Ev (l s (j : Int)) r))
    (s : σ) (h0 : I s 0) : Ev (l s 0) r := by
  have key : ∀ (n j : Nat) (s : σ), j + n = N → I s j → Ev (l s (j : Int)) r := by
    intro n
    induction n with
    | zero =>
      intro j s h hi
      have : j = N := by omega
      subst this
      exact hd s hi
    | succ n ih =>
      intro j s h hi
      obtain ⟨s', hi', h1⟩ := hs s j (by omega) hi
      exact h1 (ih (j + 1) s' (by omega) hi')
  exact key N 0 s (by omega) h0
theorem set_fill {α β : Type} (f : α → β) (z : β) (xs : List α) (j : Nat) (h : j < xs.length) :
    ((xs.take j).map f ++ List.replicate (xs.length - j) z).set j (f xs[j]) = (xs.take (j + 1)).map f ++ List.replicate (xs.length - (j + 1)) z := by
  have hl : ((xs.take j).map f).length = j := by simp; omega
  rw [List.set_append_right _ _ (by omega), hl, Nat.sub_self, List.take_succ_eq_append_getElem h, List.map_append, List.append_assoc]
  obtain ⟨m, hm⟩ : ∃ m, xs.length - j = m + 1 := ⟨xs.length - j - 1, by omega⟩
  rw [hm, show xs.length - (j + 1) = m from by omega, List.replicate_succ, List.set_cons_zero]
  rfl
theorem rd_nat (xs : List Int) (j : Nat) (h : j < xs.length) : rd xs (j : Int) = xs[j] := by unfold rd; simp [h]
theorem getD_nat {α : Type} (xs : List α) (d : α) (j : Nat) (h : j < xs.length) : xs.getD ((j : Int).toNat) d = xs[j] := by simp [h]
theorem getD_at {α : Type} (xs : List α) (d : α) (j : Nat) (h : j < xs.length) : xs.getD j d = xs[j] := by simp [h]
end Go.Proofs.YtgcagmmghckbbaaW.PrintMore

/- Plain laws of the jigsaw's small functions: ranges, tiles, turns. No memory in sight. -/
namespace Go.Proofs.Ytgcagmmghckbbaa.A
open Go.RowKit Go.Proofs.YtgcagmmghckbbaaW.PrintWords Go.Proofs.YtgcagmmghckbbaaW.PrintLast Go.Proofs.YtgcagmmghckbbaaW.PrintMore

abbrev Tl := S24
def inB (x lo hi : Int) : Bool := decide (lo ≤ x) && decide (x ≤ hi)
theorem l01In_eq (a b c : Int) : spec_l01In.f a b c = some (inB a b c) := by
  unfold spec_l01In.f inB
  by_cases h : a ≥ b
  · rw [if_pos h]; simp; omega
  · rw [if_neg h]; simp; omega
theorem within_eq (a b c : Int) : impl_within.f a b c = some (inB a b c) := by
  unfold impl_within.f inB
  by_cases h : a ≥ b
  · rw [if_pos h]; simp; omega
  · rw [if_neg h]; simp; omega
def okE (x : Int) : Bool := inB x (-9) 9
def okT (t : Tl) : Bool := okE t.f0 && (okE t.f1 && (okE t.f2 && okE t.f3))
theorem isTile_eq (t : Tl) : impl_isTile.f t.f0 t.f1 t.f2 t.f3 = some (okT t) := by
  unfold impl_isTile.f okT okE
  simp only [within_eq, Option.bind_some]
  cases inB t.f0 (-9) 9 <;> cases inB t.f1 (-9) 9 <;> cases inB t.f2 (-9) 9 <;> simp
theorem notTile_eq : impl_areTiles.p = fun t => !okT t := by
  funext t
  unfold impl_areTiles.p
  rw [isTile_eq]
  rfl
theorem areTiles_eq (k : Nat) (l : List Tl) : impl_areTiles.f k l = some (l.all okT) := by
  unfold impl_areTiles.f
  rw [notTile_eq]
  simp [List.all_eq_not_any_not]
theorem l30Codes_eq (a b c d : Int) : spec_l30Codes.f a b c d = some [a, b, c, d] := rfl
theorem l30Valid_round (k : Nat) (x0 : List Tl) (x3 a b c d : Int) :
    spec_l30Valid.l1 (k + 5) x0 x3 [a, b, c, d] 0 = if okE a && (okE b && (okE c && okE d)) then spec_l30Valid.l0 k x0 (wrap64 (x3 + 1)) else some false := by
  simp only [spec_l30Valid.l1, l01In_eq, Option.bind_some, rd]
  cases ha : okE a <;> cases hb : okE b <;> cases hc : okE c <;> cases hd : okE d <;> simp_all [okE, wrap64]
theorem l30Valid_ev (xs : List Tl) (h : xs.length ≤ maxLen) : Ev (fun k => spec_l30Valid.f k xs) (xs.all okT) := by
  unfold spec_l30Valid.f
  unfold maxLen at h
  refine ev_list0 xs (fun (_ : Unit) i k => spec_l30Valid.l0 k xs i) (fun _ l => l.all okT) (fun _ => ?_) (fun _ j hj ih => ?_) ()
  · exact Ev.step (f := fun _ => some true) (fun k => by simp only [spec_l30Valid.l0]; rw [if_neg (by omega)]) (Ev.now _)
  · refine Ev.step (f := fun k => spec_l30Valid.l1 k xs j [xs[j].f0, xs[j].f1, xs[j].f2, xs[j].f3] 0) (fun k => by
      simp only [spec_l30Valid.l0]
      rw [if_pos (by omega), if_pos (by omega)]
      simp only [l30Codes_eq, Option.bind_some, rd_T24, getD_nat xs _ j hj]) ?_
    obtain ⟨K, hK⟩ := ih ()
    refine ⟨K + 5, fun k hk => ?_⟩
    obtain ⟨m, rfl⟩ : ∃ m, k = m + 5 := ⟨k - 5, by omega⟩
    show spec_l30Valid.l1 (m + 5) _ _ _ _ = _
    rw [l30Valid_round, wrap_succ j (by omega), List.all_cons]
    show (if okT xs[j] = true then _ else _) = _
    cases okT xs[j]
    · rfl
    · simp only [if_true, Bool.true_and]
      exact hK m (by omega)
def turnT (t : Tl) (n : Int) : Tl := if n = 0 then t else if n = 1 then ⟨t.f3, t.f0, t.f1, t.f2⟩ else if n = 2 then ⟨t.f2, t.f3, t.f0, t.f1⟩ else ⟨t.f1, t.f2, t.f3, t.f0⟩
def tup (t : Tl) : Int × Int × Int × Int := (t.f0, t.f1, t.f2, t.f3)
theorem l30Turn_eq (t : Tl) (n : Int) (h0 : 0 ≤ n) (h1 : n ≤ 3) : spec_l30Turn.f t.f0 t.f1 t.f2 t.f3 n = some (tup (turnT t n)) := by
  unfold spec_l30Turn.f
  rw [l30Codes_eq, Option.bind_some]
  have : n = 0 ∨ n = 1 ∨ n = 2 ∨ n = 3 := by omega
  rcases this with rfl | rfl | rfl | rfl <;> simp [wrap64, rd, turnT, tup]
theorem turnTile_at (t : Tl) (n : Int) (h0 : 0 ≤ n) (h1 : n ≤ 3) (k : Nat) : impl_turnTile.f (k + 4) t.f0 t.f1 t.f2 t.f3 n = some (tup (turnT t n)) := by
  unfold impl_turnTile.f
  have : n = 0 ∨ n = 1 ∨ n = 2 ∨ n = 3 := by omega
  rcases this with rfl | rfl | rfl | rfl <;> simp [impl_turnTile.l0, wrap64, turnT, tup]
theorem turnTile_ev (t : Tl) (n : Int) (h0 : 0 ≤ n) (h1 : n ≤ 3) : Ev (fun k => impl_turnTile.f k t.f0 t.f1 t.f2 t.f3 n) (tup (turnT t n)) :=
  ⟨4, fun k hk => by
    obtain ⟨m, rfl⟩ : ∃ m, k = m + 4 := ⟨k - 4, by omega⟩
    exact turnTile_at t n h0 h1 m⟩
theorem inB_iff (x a b : Int) : inB x a b = true ↔ a ≤ x ∧ x ≤ b := by unfold inB; simp
end Go.Proofs.Ytgcagmmghckbbaa.A













/- Plain laws of what the laws do with tiles and numbers: copies, marks, comparisons; sums of edges, flat edges. -/
namespace Go.Proofs.Ytgcagmmghckbbaa.A
set_option linter.unusedSimpArgs false
set_option linter.unusedVariables false
open Go.RowKit Go.Proofs.YtgcagmmghckbbaaW.PrintWords Go.Proofs.YtgcagmmghckbbaaW.PrintLast Go.Proofs.YtgcagmmghckbbaaW.PrintMore

def toTl (x : S23) : Tl := ⟨x.f0, x.f1, x.f2, x.f3⟩
theorem toTileS_ev (l : List S23) (h : l.length ≤ 1048576) : Ev (fun k => laws_toTileS.f k l) (l.map toTl) := by
  unfold laws_toTileS.f
  simp only [Int.toNat_natCast, show (0 : Int) ≤ l.length from by omega, show l.length ≤ 8796093022208 from by omega, if_true]
  refine ev_at l.length (fun s j => s = (l.take j).map toTl ++ List.replicate (l.length - j) z24) (l.map toTl) (fun s i k => laws_toTileS.l0 k l s i) (fun s hi => ?_) (fun s j hj hi => ?_) _ (by simp)
  · refine Ev.step (f := fun _ => some s) (fun k => by simp only [laws_toTileS.l0]; rw [if_neg (by omega)]) ?_
    rw [hi]
    simpa using Ev.now _
  · have hl : s.length = l.length := by rw [hi]; simp; omega
    refine ⟨s.set j (toTl l[j]), by rw [hi]; exact set_fill toTl _ l j hj, fun h2 => Ev.step (fun k => ?_) h2⟩
    simp only [laws_toTileS.l0, laws_toTile.f, Option.bind_some]
    rw [if_pos (by omega), if_pos (by omega), if_pos (by omega), wrap_succ j (by omega)]
    simp only [rd_T23, getD_at l _ j hj, Int.toNat_natCast]
    rfl
theorem szTileS_in (l : List S23) (h : l.length ≤ 1048576) : laws_szTileS.f l 1048576 = some (1048576 - (l.length : Int)) := by
  unfold laws_szTileS.f
  rw [show wrap64 (1048576 - (l.length : Int)) = 1048576 - (l.length : Int) from by unfold wrap64; omega, if_neg (by omega)]
theorem szTileS_out (l : List S23) (hm : l.length ≤ maxLen) (h : ¬ l.length ≤ 1048576) : laws_szTileS.f l 1048576 = some (-1) := by
  unfold maxLen at hm
  unfold laws_szTileS.f
  rw [if_pos (by unfold wrap64; omega)]
theorem eqTileS_ev (l : List Tl) (h : l.length ≤ 1048576) : Ev (fun k => laws_eqTileS.f k l l) true := by
  unfold laws_eqTileS.f
  simp only [if_true]
  refine ev_at l.length (fun (_ : Unit) _ => True) true (fun _ i k => laws_eqTileS.l0 k l l i) (fun s hi => ?_) (fun s j hj hi => ?_) () trivial
  · exact Ev.step (f := fun _ => some true) (fun k => by simp only [laws_eqTileS.l0]; rw [if_neg (by omega)]) (Ev.now _)
  · refine ⟨(), trivial, fun h2 => Ev.step (fun k => ?_) h2⟩
    simp only [laws_eqTileS.l0, laws_eqTile.f, if_true, Option.bind_some]
    rw [if_pos (by omega), if_pos (by omega), if_pos (by omega), wrap_succ j (by omega)]
end Go.Proofs.Ytgcagmmghckbbaa.A

/- Plain laws of layouts: codes, what fits, what is a correct layout. -/
namespace Go.Proofs.Ytgcagmmghckbbaa.A
set_option linter.unusedSimpArgs false
set_option linter.unusedVariables false
open Go.RowKit Go.Proofs.YtgcagmmghckbbaaW.PrintWords Go.Proofs.YtgcagmmghckbbaaW.PrintLast Go.Proofs.YtgcagmmghckbbaaW.PrintMore
abbrev St := S74
/-- The code of a jigsaw. -/
def codeV (l : List Tl) (w h : Int) : Int := if l.all okT then if inB w 1 6 && (inB h 1 6 && (decide (w * h = l.length) && decide (l.length ≤ 12))) then 0 else 2 else 1
theorem code_tail (w h n : Int) (hw : inB w 1 6 = true) (hh : inB h 1 6 = true) : wrap64 (w * h) = w * h := by
  obtain ⟨a, b⟩ := (inB_iff _ _ _).1 hw
  obtain ⟨c, d⟩ := (inB_iff _ _ _).1 hh
  have h1 : 0 ≤ w * h := Int.mul_nonneg (by omega) (by omega)
  have h2 : w * h ≤ 6 * 6 := Int.mul_le_mul b d (by omega) (by omega)
  exact wrap_id (by omega) (by omega)
theorem l30Code_ev (l : List Tl) (w h : Int) (hl : l.length ≤ 1048576) : Ev (fun k => spec_l30Code.f k l w h) (codeV l w h) := by
  unfold spec_l30Code.f codeV
  refine Ev.bind (l30Valid_ev l (by simp [maxLen]; omega)) (Ev.val fun k => ?_)
  cases l.all okT
  · rfl
  · simp only [if_true, l01In_eq, Option.bind_some]
    cases hw : inB w 1 6
    · rfl
    · cases hh : inB h 1 6
      · rfl
      · simp only [if_true, code_tail w h 0 hw hh, Bool.true_and]
        by_cases c : w * h = (l.length : Int)
        · by_cases d : l.length ≤ 12
          · simp [c, d]; omega
          · simp [c, d]; omega
        · simp [c]
theorem jigsawCode_ev (l : List Tl) (w h : Int) : Ev (fun k => impl_jigsawCode.f k l w h) (codeV l w h) := by
  unfold impl_jigsawCode.f codeV
  refine Ev.bind (Ev.val fun k => areTiles_eq k l) (Ev.val fun k => ?_)
  cases l.all okT
  · rfl
  · simp only [if_true, within_eq, Option.bind_some]
    cases hw : inB w 1 6
    · rfl
    · cases hh : inB h 1 6
      · rfl
      · simp only [if_true, code_tail w h 0 hw hh, Bool.true_and]
        by_cases c : w * h = (l.length : Int)
        · by_cases d : l.length ≤ 12
          · simp [c, d]; omega
          · simp [c, d]; omega
        · simp [c]
theorem codeV_zero {l : List Tl} {w h : Int} (hc : codeV l w h = 0) : l.all okT = true ∧ 1 ≤ w ∧ w ≤ 6 ∧ 1 ≤ h ∧ h ≤ 6 ∧ w * h = l.length ∧ l.length ≤ 12 := by
  unfold codeV at hc
  split at hc
  · rename_i h1
    split at hc
    · rename_i h2
      simp only [Bool.and_eq_true, inB_iff, decide_eq_true_eq] at h2
      exact ⟨h1, h2.1.1, h2.1.2, h2.2.1.1, h2.2.1.2, h2.2.2.1, h2.2.2.2⟩
    · omega
  · omega
def matchS (a b : Int) : Bool := if a = 0 then false else wrap64 (a + b) == 0
def matchI (a b : Int) : Bool := if a = 0 then false else if b = 0 then false else wrap64 (a + b) == 0
theorem okE_iff (x : Int) : okE x = true ↔ -9 ≤ x ∧ x ≤ 9 := inB_iff _ _ _
theorem match_eq (a b : Int) (ha : okE a = true) (hb : okE b = true) : matchI b a = matchS a b := by
  rw [okE_iff] at ha hb
  unfold matchI matchS
  rw [show wrap64 (b + a) = a + b from by unfold wrap64; omega, show wrap64 (a + b) = a + b from by unfold wrap64; omega]
  by_cases h1 : a = 0
  · simp [h1]
  · by_cases h2 : b = 0
    · simp [h2, h1]
    · simp [h1, h2]
theorem l30Match_eq (a b : Int) : spec_l30Match.f a b = some (matchS a b) := by
  unfold spec_l30Match.f matchS
  split <;> rfl
theorem implMatch_eq (a b : Int) : impl_match.f a b = some (matchI a b) := by
  unfold impl_match.f matchI
  split
  · rfl
  · split <;> rfl
def lastT (pl : List Tl) (i : Int) : Tl := rd_T24 pl i
def sideV (m : Int → Int → Bool) (z x y : Int) : Bool := if z = 0 then x == 0 else m x y
theorem spec_fits_j0 (k : Nat) (pl : List Tl) (w col row : Int) (b : Bool) (t : Tl) (h1 : 1 ≤ w) (h6 : w ≤ 6) (hc0 : 0 ≤ col) (hr0 : 0 ≤ row) (hcol : 0 < col → 1 ≤ pl.length) (hrow : 0 < row → w ≤ pl.length) (hl : pl.length ≤ 1048576) :
    spec_l30Fits.j0 (k + 1) pl w pl.length col row b t.f0 t.f1 t.f2 t.f3 = some (!b && (sideV matchS col t.f3 (lastT pl (pl.length - 1)).f1 && sideV matchS row t.f0 (lastT pl (pl.length - w)).f2)) := by
  have e1 : wrap64 ((pl.length : Int) - 1) = pl.length - 1 := by unfold wrap64; omega
  have e2 : wrap64 ((pl.length : Int) - w) = pl.length - w := by unfold wrap64; omega
  simp only [spec_l30Fits.j0, l30Match_eq, Option.bind_some, e1, e2]
  cases b
  · have a1 : (pl.length : Int) - 1 < pl.length := by omega
    have a2 : (pl.length : Int) - w < pl.length := by omega
    by_cases c : col = 0
    · by_cases r : row = 0
      · by_cases p : t.f3 = 0 <;> by_cases q : t.f0 = 0 <;> simp [sideV, c, r, p, q] <;> omega
      · have a3 : 0 ≤ (pl.length : Int) - w := by have := hrow (by omega); omega
        have a4 : 0 < row := by omega
        by_cases p : t.f3 = 0 <;> simp [sideV, c, r, p, a2, a3, a4, lastT] <;> omega
    · have a5 : 0 ≤ (pl.length : Int) - 1 := by have := hcol (by omega); omega
      have a6 : 0 < col := by omega
      by_cases r : row = 0
      · cases hm : matchS t.f3 (rd_T24 pl (pl.length - 1)).f1 <;> by_cases q : t.f0 = 0 <;> simp [sideV, c, r, q, a1, a5, a6, hm, lastT] <;> omega
      · have a3 : 0 ≤ (pl.length : Int) - w := by have := hrow (by omega); omega
        have a4 : 0 < row := by omega
        cases hm : matchS t.f3 (rd_T24 pl (pl.length - 1)).f1 <;> simp [sideV, c, r, a1, a2, a3, a4, a5, a6, hm, lastT] <;> omega
  · simp
theorem impl_fits_j0 (k : Nat) (pl : List Tl) (w col row : Int) (b : Bool) (t : Tl) (h1 : 1 ≤ w) (h6 : w ≤ 6) (hc0 : 0 ≤ col) (hr0 : 0 ≤ row) (hcol : 0 < col → 1 ≤ pl.length) (hrow : 0 < row → w ≤ pl.length) (hl : pl.length ≤ 1048576) :
    impl_fits.j0 (k + 1) pl w pl.length col row b t.f0 t.f1 t.f2 t.f3 = some (!b && (sideV (fun x y => matchI y x) col t.f3 (lastT pl (pl.length - 1)).f1 && sideV (fun x y => matchI y x) row t.f0 (lastT pl (pl.length - w)).f2)) := by
  have e1 : wrap64 ((pl.length : Int) - 1) = pl.length - 1 := by unfold wrap64; omega
  have e2 : wrap64 ((pl.length : Int) - w) = pl.length - w := by unfold wrap64; omega
  simp only [impl_fits.j0, implMatch_eq, Option.bind_some, e1, e2]
  cases b
  · have a1 : (pl.length : Int) - 1 < pl.length := by omega
    have a2 : (pl.length : Int) - w < pl.length := by omega
    by_cases c : col = 0
    · by_cases r : row = 0
      · by_cases p : t.f3 = 0 <;> by_cases q : t.f0 = 0 <;> simp [sideV, c, r, p, q] <;> omega
      · have a3 : 0 ≤ (pl.length : Int) - w := by have := hrow (by omega); omega
        have a4 : 0 < row := by omega
        by_cases p : t.f3 = 0 <;> simp [sideV, c, r, p, a2, a3, a4, lastT] <;> omega
    · have a5 : 0 ≤ (pl.length : Int) - 1 := by have := hcol (by omega); omega
      have a6 : 0 < col := by omega
      by_cases r : row = 0
      · cases hm : matchI (rd_T24 pl (pl.length - 1)).f1 t.f3 <;> by_cases q : t.f0 = 0 <;> simp [sideV, c, r, q, a1, a5, a6, hm, lastT] <;> omega
      · have a3 : 0 ≤ (pl.length : Int) - w := by have := hrow (by omega); omega
        have a4 : 0 < row := by omega
        cases hm : matchI (rd_T24 pl (pl.length - 1)).f1 t.f3 <;> simp [sideV, c, r, a1, a2, a3, a4, a5, a6, hm, lastT] <;> omega
  · simp
/-- Does a turned tile fit behind those that are placed? -/
def fitsV (pl : List Tl) (t : Tl) (w h : Int) : Bool :=
  !(((t.f1 == 0) != ((pl.length : Int) % w == w - 1)) || ((t.f2 == 0) != ((pl.length : Int) / w == h - 1))) &&
    (sideV matchS ((pl.length : Int) % w) t.f3 (lastT pl (pl.length - 1)).f1 && sideV matchS ((pl.length : Int) / w) t.f0 (lastT pl (pl.length - w)).f2)
theorem grid (n : Nat) (w : Int) (h1 : 1 ≤ w) : 0 ≤ (n : Int) % w ∧ 0 ≤ (n : Int) / w ∧ (n : Int) / w ≤ n ∧ (0 < (n : Int) % w → 1 ≤ n) ∧ (0 < (n : Int) / w → w ≤ n) := by
  refine ⟨Int.emod_nonneg _ (by omega), Int.ediv_nonneg (by omega) (by omega), Int.ediv_le_self _ (by omega), fun h => ?_, fun h => ?_⟩
  · rcases Nat.eq_zero_or_pos n with rfl | h0
    · simp at h
    · exact h0
  · rcases Int.lt_or_le (n : Int) w with h0 | h0
    · rw [Int.ediv_eq_zero_of_lt (by omega) h0] at h; omega
    · exact h0
theorem l30Fits_ev (pl : List Tl) (t : Tl) (w h : Int) (h1 : 1 ≤ w) (h6 : w ≤ 6) (hh1 : 1 ≤ h) (hh6 : h ≤ 6) (hl : pl.length ≤ 1048576) :
    Ev (fun k => spec_l30Fits.f k pl t.f0 t.f1 t.f2 t.f3 w h) (fitsV pl t w h) := by
  obtain ⟨g1, g2, g3, g4, g5⟩ := grid pl.length w h1
  have e1 : wrap64 (w - 1) = w - 1 := by unfold wrap64; omega
  have e2 : wrap64 (h - 1) = h - 1 := by unfold wrap64; omega
  have e3 : wrap64 ((pl.length : Int) / w) = pl.length / w := wrap_id (by omega) (by omega)
  refine ⟨1, fun k hk => ?_⟩
  obtain ⟨m, rfl⟩ : ∃ m, k = m + 1 := ⟨k - 1, by omega⟩
  unfold spec_l30Fits.f fitsV
  dsimp only
  rw [if_neg (by omega), e1, e2, e3]
  simp only [spec_fits_j0 _ _ _ _ _ _ _ h1 h6 g1 g2 g4 g5 hl]
  cases ((t.f1 == 0) != ((pl.length : Int) % w == w - 1)) <;> simp
theorem fits_ev (pl : List Tl) (t : Tl) (w h : Int) (h1 : 1 ≤ w) (h6 : w ≤ 6) (hh1 : 1 ≤ h) (hh6 : h ≤ 6) (hl : pl.length ≤ 1048576) (hp : pl.all okT = true) (ht : okT t = true) :
    Ev (fun k => impl_fits.f k t.f0 t.f1 t.f2 t.f3 pl w h) (fitsV pl t w h) := by
  obtain ⟨g1, g2, g3, g4, g5⟩ := grid pl.length w h1
  have e1 : wrap64 (w - 1) = w - 1 := by unfold wrap64; omega
  have e2 : wrap64 (h - 1) = h - 1 := by unfold wrap64; omega
  have e3 : wrap64 ((pl.length : Int) / w) = pl.length / w := wrap_id (by omega) (by omega)
  have hok : ∀ i : Int, 0 ≤ i → i < pl.length → okT (lastT pl i) = true := fun i h0 hi => by
    have hi' : i.toNat < pl.length := by omega
    rw [List.all_eq_true] at hp
    unfold lastT rd_T24
    rw [getD_at _ _ _ hi']
    exact hp _ (List.getElem_mem hi')
  have hparts : ∀ t : Tl, okT t = true → okE t.f0 = true ∧ okE t.f1 = true ∧ okE t.f2 = true ∧ okE t.f3 = true := fun t h => by
    unfold okT at h
    simpa using h
  have s1 : sideV (fun x y => matchI y x) ((pl.length : Int) % w) t.f3 (lastT pl (pl.length - 1)).f1 = sideV matchS ((pl.length : Int) % w) t.f3 (lastT pl (pl.length - 1)).f1 := by
    unfold sideV
    split
    · rfl
    · exact match_eq _ _ (hparts t ht).2.2.2 (hparts _ (hok _ (by have := g4 (by omega); omega) (by omega))).2.1
  have s2 : sideV (fun x y => matchI y x) ((pl.length : Int) / w) t.f0 (lastT pl (pl.length - w)).f2 = sideV matchS ((pl.length : Int) / w) t.f0 (lastT pl (pl.length - w)).f2 := by
    unfold sideV
    split
    · rfl
    · exact match_eq _ _ (hparts t ht).1 (hparts _ (hok _ (by have := g5 (by omega); omega) (by omega))).2.2.1
  refine ⟨1, fun k hk => ?_⟩
  obtain ⟨m, rfl⟩ : ∃ m, k = m + 1 := ⟨k - 1, by omega⟩
  unfold impl_fits.f fitsV
  dsimp only
  rw [if_neg (by omega), e1, e2, e3]
  simp only [impl_fits_j0 _ _ _ _ _ _ _ h1 h6 g1 g2 g4 g5 hl, s1, s2]
  rw [show (((pl.length : Int) % w == w - 1) != (t.f1 == 0)) = ((t.f1 == 0) != ((pl.length : Int) % w == w - 1)) from bne_comm, show (((pl.length : Int) / w == h - 1) != (t.f2 == 0)) = ((t.f2 == 0) != ((pl.length : Int) / w == h - 1)) from bne_comm]
  cases ((t.f1 == 0) != ((pl.length : Int) % w == w - 1)) <;> simp
end Go.Proofs.Ytgcagmmghckbbaa.A

/- Plain laws of layouts, the loops: whether a layout is correct, as the reference and as the program ask it. -/
namespace Go.Proofs.Ytgcagmmghckbbaa.A
set_option linter.unusedSimpArgs false
set_option linter.unusedVariables false
open Go.RowKit Go.Proofs.YtgcagmmghckbbaaW.PrintWords Go.Proofs.YtgcagmmghckbbaaW.PrintLast Go.Proofs.YtgcagmmghckbbaaW.PrintMore
def tileAt (tiles : List Tl) (i : Int) : Tl := rd_T24 tiles i
theorem setAt_nat (l : List St) (j : Nat) (h : j < l.length) : rd_T74 l (j : Int) = l[j] := by unfold rd_T74; exact getD_nat l _ j h
/-- Is what is left of a layout correct behind what is placed? -/
def corr (tiles : List Tl) (w h : Int) : List Tl → List Int → List St → Bool
  | _, _, [] => true
  | pl, seen, s :: r => inB s.f0 0 ((tiles.length : Int) - 1) && (inB s.f1 0 3 && (!(seen.contains s.f0) && (fitsV pl (turnT (tileAt tiles s.f0) s.f1) w h && corr tiles w h (pl ++ [turnT (tileAt tiles s.f0) s.f1]) (seen ++ [s.f0]) r)))
theorem l01Has_ev (l : List Int) (x : Int) (h : l.length ≤ 1048576) : Ev (fun k => spec_l01Has.f k l x) (l.contains x) := by
  unfold spec_l01Has.f
  refine ev_list0 l (fun (_ : Unit) i k => spec_l01Has.l0 k l x i) (fun _ r => r.contains x) (fun s => ?_) (fun s j hj ih => ?_) ()
  · exact Ev.step (f := fun _ => some false) (fun k => by simp only [spec_l01Has.l0]; rw [if_neg (by omega)]) (Ev.now _)
  · by_cases c : l[j] = x
    · refine Ev.step (f := fun _ => some true) (fun k => ?_) ?_
      · simp only [spec_l01Has.l0]
        rw [if_pos (by omega), if_pos (by omega), if_pos (by rw [rd_nat l j hj]; exact c)]
      · rw [List.contains_cons, c]
        simpa using Ev.now true
    · refine Ev.step (f := fun k => spec_l01Has.l0 k l x ((j + 1 : Nat) : Int)) (fun k => ?_) ?_
      · simp only [spec_l01Has.l0]
        rw [if_pos (by omega), if_pos (by omega), if_neg (by rw [rd_nat l j hj]; exact c), wrap_succ j (by omega)]
      · rw [List.contains_cons, show (x == l[j]) = false from by simpa using fun e => c e.symm]
        simpa using ih ()
theorem turnT_ok (t : Tl) (n : Int) (h : okT t = true) : okT (turnT t n) = true := by
  unfold okT at h ⊢
  simp only [Bool.and_eq_true] at h
  unfold turnT
  split
  · simp [h]
  · split
    · simp [h]
    · split <;> simp [h]
theorem tileAt_ok (tiles : List Tl) (i : Int) (h : tiles.all okT = true) (h0 : 0 ≤ i) (h1 : i < tiles.length) : okT (tileAt tiles i) = true := by
  rw [List.all_eq_true] at h
  unfold tileAt rd_T24
  have hi : i.toNat < tiles.length := by omega
  rw [getD_at _ _ _ hi]
  exact h _ (List.getElem_mem hi)
theorem wrap_pred (n : Nat) (h : n ≤ 1048576) : wrap64 ((n : Int) - 1) = (n : Int) - 1 := by unfold wrap64; omega
theorem spec_corr_ev (tiles : List Tl) (w h : Int) (l : List St) (hc : codeV tiles w h = 0) (hl : l.length ≤ 1048576) :
    Ev (fun k => spec_IsCorrectLayout.l0 k tiles w h l [] [] 0) (corr tiles w h [] [] l) := by
  obtain ⟨ho, hw1, hw6, hh1, hh6, hwh, hn⟩ := codeV_zero hc
  have := ev_listI l (fun (s : List Tl × List Int) j => s.1.length = j ∧ s.2.length = j) (fun s i k => spec_IsCorrectLayout.l0 k tiles w h l s.1 s.2 i) (fun s r => corr tiles w h s.1 s.2 r) (fun s hi => ?_) (fun s j hj hi ih => ?_) l.length 0 ([], []) (by omega) ⟨rfl, rfl⟩
  · simpa using this
  · exact Ev.step (f := fun _ => some true) (fun k => by simp only [spec_IsCorrectLayout.l0]; rw [if_neg (by omega)]) (Ev.now _)
  · have c1 : (j : Int) < (l.length : Int) := by omega
    have c2 : (0 : Int) ≤ (j : Int) := by omega
    refine Ev.succ ?_
    simp only [spec_IsCorrectLayout.l0, c1, c2, if_true, setAt_nat l j hj, wrap_pred _ (show tiles.length ≤ 1048576 by omega), l01In_eq, Option.bind_some]
    unfold corr
    cases h1 : inB l[j].f0 0 ((tiles.length : Int) - 1)
    · simpa using Ev.now false
    · obtain ⟨h1a, h1b⟩ := (inB_iff _ _ _).1 h1
      simp only [if_true, l01In_eq, Option.bind_some, Bool.true_and]
      cases h2 : inB l[j].f1 0 3
      · simpa using Ev.now false
      · obtain ⟨h2a, h2b⟩ := (inB_iff _ _ _).1 h2
        simp only [if_true, Bool.true_and]
        refine Ev.bind (l01Has_ev s.2 l[j].f0 (by omega)) ?_
        cases h3 : s.2.contains l[j].f0
        · simp only [Bool.false_eq_true, if_false, Bool.not_false, Bool.true_and, if_pos h1a, show l[j].f0 < (tiles.length : Int) from by omega, if_true]
          refine Ev.bindc (l30Turn_eq (rd_T24 tiles l[j].f0) l[j].f1 h2a h2b) ?_
          refine Ev.bind (l30Fits_ev s.1 (turnT (tileAt tiles l[j].f0) l[j].f1) w h hw1 hw6 hh1 hh6 (by omega)) ?_
          cases h4 : fitsV s.1 (turnT (tileAt tiles l[j].f0) l[j].f1) w h
          · simpa using Ev.now false
          · simp only [if_true, Bool.true_and, show s.2.length < 17592186044416 from by omega, show s.1.length < 4398046511104 from by omega]
            refine Ev.bindc (l30Turn_eq (rd_T24 tiles l[j].f0) l[j].f1 h2a h2b) ?_
            have := ih (s.1 ++ [turnT (tileAt tiles l[j].f0) l[j].f1], s.2 ++ [l[j].f0]) ⟨by simp [hi.1], by simp [hi.2]⟩
            rw [← wrap_succ j (by omega)] at this
            exact this
        · simpa using Ev.now false
theorem impl_corr_ev (tiles : List Tl) (w h : Int) (l : List St) (hc : codeV tiles w h = 0) (hl : l.length ≤ 1048576) :
    Ev (fun k => impl_isCorrect.l0 k tiles w h (List.replicate tiles.length false) [] l (l.length : Int) 0) (corr tiles w h [] [] l) := by
  obtain ⟨ho, hw1, hw6, hh1, hh6, hwh, hn⟩ := codeV_zero hc
  have := ev_listI l (fun (s : List Bool × List Tl × List Int) j => s.1.length = tiles.length ∧ s.2.1.length = j ∧ s.2.1.all okT = true ∧ ∀ i : Nat, i < tiles.length → s.1.getD i false = s.2.2.contains (i : Int)) (fun s i k => impl_isCorrect.l0 k tiles w h s.1 s.2.1 l (l.length : Int) i) (fun s r => corr tiles w h s.2.1 s.2.2 r) (fun s hi => ?_) (fun s j hj hi ih => ?_) l.length 0 (List.replicate tiles.length false, [], []) (by omega) ⟨by simp, rfl, rfl, fun i hi => by simp [List.getD_eq_getElem?_getD, hi]⟩
  · simpa using this
  · exact Ev.step (f := fun _ => some true) (fun k => by simp only [impl_isCorrect.l0]; rw [if_neg (by omega)]) (Ev.now _)
  · obtain ⟨i1, i2, i3, i4⟩ := hi
    have j1 : ∀ k a b, impl_isCorrect.j1 (k + 1) tiles w h s.1 s.2.1 l (l.length : Int) j true a b = some false := fun k a b => by simp [impl_isCorrect.j1]
    have c1 : (j : Int) < (l.length : Int) := by omega
    have c2 : (0 : Int) ≤ (j : Int) := by omega
    refine Ev.succ ?_
    simp only [impl_isCorrect.l0, c1, c2, if_true, setAt_nat l j hj, wrap_pred _ (show tiles.length ≤ 1048576 by omega), within_eq, Option.bind_some]
    unfold corr
    cases h1 : inB l[j].f0 0 ((tiles.length : Int) - 1)
    · simp only [Bool.false_eq_true, if_false, Bool.false_and]
      exact Ev.step (f := fun _ => some false) (fun k => j1 k _ _) (Ev.now _)
    · obtain ⟨h1a, h1b⟩ := (inB_iff _ _ _).1 h1
      simp only [if_true, within_eq, Option.bind_some, Bool.true_and]
      cases h2 : inB l[j].f1 0 3
      · simp only [Bool.false_eq_true, if_false, Bool.false_and]
        exact Ev.step (f := fun _ => some false) (fun k => j1 k _ _) (Ev.now _)
      · obtain ⟨h2a, h2b⟩ := (inB_iff _ _ _).1 h2
        have hlt : l[j].f0.toNat < tiles.length := by omega
        have e0 : ((l[j].f0.toNat : Nat) : Int) = l[j].f0 := by omega
        have hu : rdOf false s.1 l[j].f0 = s.2.2.contains l[j].f0 := by
          have := i4 _ hlt
          rw [e0] at this
          exact this
        simp only [if_true, Bool.true_and, if_pos h1a, show l[j].f0 < (s.1.length : Int) from by omega, hu]
        cases h3 : s.2.2.contains l[j].f0
        · simp only [Bool.not_false, Bool.true_and]
          refine Ev.succ ?_
          simp only [impl_isCorrect.j1, Bool.false_eq_true, if_false, if_pos h1a, show l[j].f0 < (s.1.length : Int) from by omega, show l[j].f0 < (tiles.length : Int) from by omega, if_true]
          have ht : okT (turnT (tileAt tiles l[j].f0) l[j].f1) = true := turnT_ok _ _ (tileAt_ok tiles _ ho h1a (by omega))
          refine Ev.bind (turnTile_ev (rd_T24 tiles l[j].f0) l[j].f1 h2a h2b) ?_
          refine Ev.bind (fits_ev s.2.1 (turnT (tileAt tiles l[j].f0) l[j].f1) w h hw1 hw6 hh1 hh6 (by omega) i3 ht) ?_
          cases h4 : fitsV s.2.1 (turnT (tileAt tiles l[j].f0) l[j].f1) w h
          · simpa using Ev.now false
          · simp only [if_true, Bool.true_and, show s.2.1.length < 4398046511104 from by omega]
            have := ih (s.1.set l[j].f0.toNat true, s.2.1 ++ [turnT (tileAt tiles l[j].f0) l[j].f1], s.2.2 ++ [l[j].f0]) ⟨by simp [i1], by simp [i2], by simp [i3, ht], fun i hi => by
              simp only [List.getD_eq_getElem?_getD, List.getElem?_set, List.contains_append]
              by_cases e : l[j].f0.toNat = i
              · subst e
                simp [i1, hlt, e0]
              · rw [if_neg e, ← List.getD_eq_getElem?_getD, i4 i hi]
                have hne : ¬ ((i : Int) = l[j].f0) := by omega
                simp [hne]⟩
            rw [← wrap_succ j (by omega)] at this
            exact this
        · exact Ev.step (f := fun _ => some false) (fun k => j1 k _ _) (Ev.now _)
/-- Is it a correct layout of a jigsaw? -/
def layV (tiles : List Tl) (w h : Int) (l : List St) : Bool := decide (codeV tiles w h = 0) && (decide (l.length = tiles.length) && corr tiles w h [] [] l)
theorem specIsCorrect_ev (tiles : List Tl) (w h : Int) (l : List St) (hn : tiles.length ≤ 1048576) (hl : l.length ≤ 1048576) : Ev (fun k => spec_IsCorrectLayout.f k tiles w h l) (layV tiles w h l) := by
  unfold spec_IsCorrectLayout.f layV
  refine Ev.bind (l30Code_ev tiles w h hn) ?_
  by_cases c : codeV tiles w h = 0
  · simp only [c, if_true, decide_true, Bool.true_and]
    by_cases d : l.length = tiles.length
    · rw [show ((l.length : Int) != (tiles.length : Int)) = false from by simp [d]]
      simp only [d, decide_true, Bool.true_and]
      exact Ev.step (fun k => by simp only [spec_IsCorrectLayout.j0, Bool.false_eq_true, if_false]) (spec_corr_ev tiles w h l c hl)
    · rw [show ((l.length : Int) != (tiles.length : Int)) = true from by simp; omega]
      simp only [d, decide_false, Bool.false_and]
      exact Ev.step (f := fun _ => some false) (fun k => by simp [spec_IsCorrectLayout.j0]) (Ev.now _)
  · simp only [c, if_false, decide_false, Bool.false_and]
    exact Ev.step (f := fun _ => some false) (fun k => by simp [spec_IsCorrectLayout.j0]) (Ev.now _)
theorem isCorrect_ev (tiles : List Tl) (w h : Int) (l : List St) (c : codeV tiles w h = 0) (hl : l.length ≤ 1048576) : Ev (fun k => impl_isCorrect.f k tiles w h l) (decide (l.length = tiles.length) && corr tiles w h [] [] l) := by
  have hn := (codeV_zero c).2.2.2.2.2.2
  unfold impl_isCorrect.f
  by_cases d : l.length = tiles.length
  · simp only [d, if_true, decide_true, Bool.true_and, Int.toNat_natCast, show (0 : Int) ≤ (tiles.length : Int) from by omega, show tiles.length ≤ 281474976710656 from by omega]
    have := impl_corr_ev tiles w h l c hl
    rw [d] at this
    exact this
  · simp only [show ¬ ((l.length : Int) = (tiles.length : Int)) from by omega, if_false]
    simp only [d, decide_false, Bool.false_and]
    exact Ev.now _
theorem implIsCorrect_ev (tiles : List Tl) (w h : Int) (l : List St) (hl : l.length ≤ 1048576) : Ev (fun k => impl_IsCorrectLayout.f k tiles w h l) (layV tiles w h l) := by
  unfold impl_IsCorrectLayout.f layV
  refine Ev.bind (jigsawCode_ev tiles w h) ?_
  by_cases c : codeV tiles w h = 0
  · simp only [c, if_true, decide_true, Bool.true_and]
    exact Ev.bind (isCorrect_ev tiles w h l c hl) (Ev.now _)
  · simp only [c, if_false, decide_false, Bool.false_and]
    exact Ev.now _
end Go.Proofs.Ytgcagmmghckbbaa.A






