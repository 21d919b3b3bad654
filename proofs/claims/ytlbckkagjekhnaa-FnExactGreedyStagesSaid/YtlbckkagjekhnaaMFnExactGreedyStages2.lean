/- What the row of the law FnExactGreedyStages stands on, part 2. -/
import Derived.Test.YtlbckkagjekhnaaMFnExactGreedyStages1
namespace Go.Proofs.Ytlbckkagjekhnaa.A
open Go.RowKit Go.Proofs.YtlbckkagjekhnaaW.PrintWords Go.Proofs.YtlbckkagjekhnaaW.PrintLast Go.Proofs.YtlbckkagjekhnaaW.PrintMore
set_option linter.unusedVariables false
set_option linter.unusedSimpArgs false
section
attribute [local go_sem] max2_int min2_int max_two min_two max_three min_three max_four min_four
def impl_compareCells.f (a0_0 : Int) (a0_1 : Int) (a1_0 : Int) (a1_1 : Int) : Option (Int) := (cmp_Compare_int64.f a0_1 a1_1).bind fun t251 => (if t251 = 0 then ((cmp_Compare_int64.f a0_0 a1_0).bind fun t252 => (some t252)) else (some t251))
set_option maxHeartbeats 8000000 in
set_option maxRecDepth 100000 in
theorem impl_compareCells.calls (a0_0 : Int) (a0_1 : Int) (a1_0 : Int) (a1_1 : Int) (r : Int) (w : World) (h : impl_compareCells.f a0_0 a0_1 a1_0 a1_1 = some r) :
    Calls Try.prog 121 #[.agg #[.int .i64 a0_0, .int .i64 a0_1], .agg #[.int .i64 a1_0, .int .i64 a1_1]] w fun e w' => e = .returned (.int .i64 r) ∧ Below w.heap.size w w' := by
 (have hu148 := Try.underlying148); (have HB := A0_ (Below.refl w.heap.size w))
 have H : ((cmp_Compare_int64.f a0_1 a1_1).bind fun t251 => (if t251 = 0 then ((cmp_Compare_int64.f a0_0 a1_0).bind fun t252 => (some t252)) else (some t251))) = some r := h
 clear h; (replace H := Option.bind_eq_some_iff.mp H); (obtain ⟨t251, A30, H⟩ := H); (try dsimp only at H); (have A3 := A0_ A30); clear A30; (have H0_ := A0_ H); clear H; (go_enter Try.func121, Try.ntmps121); (go_wp2_with (first | ((with_reducible refine gate_dst (N := 2) rfl ?_); refine be_ (N := 2) (cs := #[.int .i64 a0_0, .int .i64 a0_1]) (t := 148) ?_; intro gb249 hg w4 hbox hb; have n0_ := A0_ (below_step bw_ hb); have n1_ := A0_ (hbox); have n2_ := A0_ ((by rw [hg]; exact (below_size bw_) : w.heap.size ≤ gb249)); have n3_ := A0_ ((by rw [hg]; exact (below_size bw_) : w.heap.size ≤ gb249)); clear HB; have HB := n0_; have BK249 := n1_; have GW249 := n2_; have GE249 := n3_; clear n0_ n1_ n2_ n3_; clear hb hbox hg) | ((with_reducible refine gate_dst (N := 3) rfl ?_); refine be_ (N := 3) (cs := #[.int .i64 a1_0, .int .i64 a1_1]) (t := 148) ?_; intro gb250 hg w5 hbox hb; have n0_ := A0_ (blk_below (g := gb249) (o := .cells #[.int .i64 a0_0, .int .i64 a0_1] 148 (0, 0)) (bk_ BK249) hb); have n1_ := A0_ (below_step bx_ hb); have n2_ := A0_ (hbox); have n3_ := A0_ ((by rw [hg]; exact (below_size bx_) : w.heap.size ≤ gb250)); have n4_ := A0_ ((by rw [hg]; exact (below_size bx_) : w.heap.size ≤ gb250)); have n5_ := A0_ ((by rw [hg]; exact Nat.ne_of_lt (blk_lt (g := gb249) (o := .cells #[.int .i64 a0_0, .int .i64 a0_1] 148 (0, 0)) (bk_ BK249)) : gb249 ≠ gb250)); have n6_ := A0_ ((by rw [hg]; exact Nat.ne_of_gt (blk_lt (g := gb249) (o := .cells #[.int .i64 a0_0, .int .i64 a0_1] 148 (0, 0)) (bk_ BK249)) : gb250 ≠ gb249)); clear BK249; clear HB; have BK249 := n0_; have HB := n1_; have BK250 := n2_; have GW250 := n3_; have GE250 := n4_; have NB249_250 := n5_; have NB250_249 := n6_; clear n0_ n1_ n2_ n3_ n4_ n5_ n6_; clear hb hbox hg; have hnb6 := NB249_250.out; have hnc6 := NB250_249.out; have hcz7_0 : w5.cell? ⟨gb249, 0, none⟩ = some (.int .i64 a0_0) := (blk_cell BK249.out 0).trans rfl; have hcz7_1 : w5.cell? ⟨gb249, 1, none⟩ = some (.int .i64 a0_1) := (blk_cell BK249.out 1).trans rfl; have hfz7_0 := blk_frozen BK249.out 0; have hfz7_1 := blk_frozen BK249.out 1; have hcz8_0 : w5.cell? ⟨gb250, 0, none⟩ = some (.int .i64 a1_0) := (blk_cell BK250.out 0).trans rfl; have hcz8_1 : w5.cell? ⟨gb250, 1, none⟩ = some (.int .i64 a1_1) := (blk_cell BK250.out 1).trans rfl; have hfz8_0 := blk_frozen BK250.out 0; have hfz8_1 := blk_frozen BK250.out 1) | ((with_reducible refine gate_callee (f := 120) rfl ?_); refine goesL_ (some 10) rfl rfl Try.func120 (by kernel_rfl) rfl #[.int .i64 a0_1, .int .i64 a1_1] rfl (by (try simp only [List.map_toArray, List.map_cons, List.map_nil]); first | done | rfl | (simp only [List.length_drop, List.length_take]; rfl)) ?_; (with_reducible refine (cmp_Compare_int64.calls a0_1 a1_1 t251 _ A3.out).mono ?_); rintro e w' ⟨rfl, ⟨nd, rfl⟩⟩; refine ⟨_, rfl, ?_⟩; refine Stop0.out ?_))); (refine Stop0.mk ?_); (have H := H0_.out); clear H0_; (by_cases c9 : t251 = 0)
 ·(rw [if_pos c9] at H); (have c9b0 : (t251 == 0) = true := beq_iff_eq.mpr c9); (have c9b1 : (t251 != 0) = false := bne_eq_false_iff_eq.mpr c9); clear c9; (replace H := Option.bind_eq_some_iff.mp H); (obtain ⟨t252, A100, H⟩ := H); (try dsimp only at H); (have A10 := A0_ A100); clear A100; (have H0_ := A0_ H); clear H; (have hnb11 := NB249_250.out); (have hnc11 := NB250_249.out); (have hcz12_0 : w5.cell? ⟨gb249, 0, none⟩ = some (.int .i64 a0_0) := (blk_cell BK249.out 0).trans rfl); (have hcz12_1 : w5.cell? ⟨gb249, 1, none⟩ = some (.int .i64 a0_1) := (blk_cell BK249.out 1).trans rfl); (have hfz12_0 := blk_frozen BK249.out 0); (have hfz12_1 := blk_frozen BK249.out 1); (have hcz13_0 : w5.cell? ⟨gb250, 0, none⟩ = some (.int .i64 a1_0) := (blk_cell BK250.out 0).trans rfl); (have hcz13_1 : w5.cell? ⟨gb250, 1, none⟩ = some (.int .i64 a1_1) := (blk_cell BK250.out 1).trans rfl); (have hfz13_0 := blk_frozen BK250.out 0); (have hfz13_1 := blk_frozen BK250.out 1); (go_wp2_with (first | ((with_reducible refine gate_callee (f := 120) rfl ?_); refine goesL_ (some 18) rfl rfl Try.func120 (by kernel_rfl) rfl #[.int .i64 a0_0, .int .i64 a1_0] rfl (by (try simp only [List.map_toArray, List.map_cons, List.map_nil]); first | done | rfl | (simp only [List.length_drop, List.length_take]; rfl)) ?_; (with_reducible refine (cmp_Compare_int64.calls a0_0 a1_0 t252 _ A10.out).mono ?_); rintro e w' ⟨rfl, ⟨nd, rfl⟩⟩; refine ⟨_, rfl, ?_⟩; refine Stop0.out ?_))); (refine Stop0.mk ?_); (have H := H0_.out); clear H0_; (obtain rfl := Option.some.inj H); go_wp2; go_ret; (exact ⟨er_, bx_⟩)
 ·(rw [if_neg c9] at H); (have c9b0 : (t251 == 0) = false := beq_eq_false_iff_ne.mpr c9); (have c9b1 : (t251 != 0) = true := bne_iff_ne.mpr c9); (obtain rfl := Option.some.inj H); go_wp2; go_ret; (exact ⟨er_, bx_⟩)
end
section
attribute [local go_sem] max2_int min2_int max_two min_two max_three min_three max_four min_four
def impl_compareCubes.f (a0_0 : Int) (a0_1 : Int) (a0_2 : Int) (a1_0 : Int) (a1_1 : Int) (a1_2 : Int) : Option (Int) := (cmp_Compare_int64.f a0_2 a1_2).bind fun t255 => (if t255 = 0 then ((impl_compareCells.f a0_0 a0_1 a1_0 a1_1).bind fun t256 => (some t256)) else (some t255))
set_option maxHeartbeats 8000000 in
set_option maxRecDepth 100000 in
theorem impl_compareCubes.calls (a0_0 : Int) (a0_1 : Int) (a0_2 : Int) (a1_0 : Int) (a1_1 : Int) (a1_2 : Int) (r : Int) (w : World) (h : impl_compareCubes.f a0_0 a0_1 a0_2 a1_0 a1_1 a1_2 = some r) :
    Calls Try.prog 109 #[.agg #[.int .i64 a0_0, .int .i64 a0_1, .int .i64 a0_2], .agg #[.int .i64 a1_0, .int .i64 a1_1, .int .i64 a1_2]] w fun e w' => e = .returned (.int .i64 r) ∧ Below w.heap.size w w' := by
 (have hu69 := Try.underlying69); (have hu148 := Try.underlying148); (have HB := A0_ (Below.refl w.heap.size w))
 have H : ((cmp_Compare_int64.f a0_2 a1_2).bind fun t255 => (if t255 = 0 then ((impl_compareCells.f a0_0 a0_1 a1_0 a1_1).bind fun t256 => (some t256)) else (some t255))) = some r := h
 clear h; (replace H := Option.bind_eq_some_iff.mp H); (obtain ⟨t255, A30, H⟩ := H); (try dsimp only at H); (have A3 := A0_ A30); clear A30; (have H0_ := A0_ H); clear H; (go_enter Try.func109, Try.ntmps109); (go_wp2_with (first | ((with_reducible refine gate_dst (N := 2) rfl ?_); refine be_ (N := 2) (cs := #[.int .i64 a0_0, .int .i64 a0_1, .int .i64 a0_2]) (t := 69) ?_; intro gb253 hg w4 hbox hb; have n0_ := A0_ (below_step bw_ hb); have n1_ := A0_ (hbox); have n2_ := A0_ ((by rw [hg]; exact (below_size bw_) : w.heap.size ≤ gb253)); have n3_ := A0_ ((by rw [hg]; exact (below_size bw_) : w.heap.size ≤ gb253)); clear HB; have HB := n0_; have BK253 := n1_; have GW253 := n2_; have GE253 := n3_; clear n0_ n1_ n2_ n3_; clear hb hbox hg) | ((with_reducible refine gate_dst (N := 3) rfl ?_); refine be_ (N := 3) (cs := #[.int .i64 a1_0, .int .i64 a1_1, .int .i64 a1_2]) (t := 69) ?_; intro gb254 hg w5 hbox hb; have n0_ := A0_ (blk_below (g := gb253) (o := .cells #[.int .i64 a0_0, .int .i64 a0_1, .int .i64 a0_2] 69 (0, 0)) (bk_ BK253) hb); have n1_ := A0_ (below_step bx_ hb); have n2_ := A0_ (hbox); have n3_ := A0_ ((by rw [hg]; exact (below_size bx_) : w.heap.size ≤ gb254)); have n4_ := A0_ ((by rw [hg]; exact (below_size bx_) : w.heap.size ≤ gb254)); have n5_ := A0_ ((by rw [hg]; exact Nat.ne_of_lt (blk_lt (g := gb253) (o := .cells #[.int .i64 a0_0, .int .i64 a0_1, .int .i64 a0_2] 69 (0, 0)) (bk_ BK253)) : gb253 ≠ gb254)); have n6_ := A0_ ((by rw [hg]; exact Nat.ne_of_gt (blk_lt (g := gb253) (o := .cells #[.int .i64 a0_0, .int .i64 a0_1, .int .i64 a0_2] 69 (0, 0)) (bk_ BK253)) : gb254 ≠ gb253)); clear BK253; clear HB; have BK253 := n0_; have HB := n1_; have BK254 := n2_; have GW254 := n3_; have GE254 := n4_; have NB253_254 := n5_; have NB254_253 := n6_; clear n0_ n1_ n2_ n3_ n4_ n5_ n6_; clear hb hbox hg; have hnb6 := NB253_254.out; have hnc6 := NB254_253.out; have hcz7_0 : w5.cell? ⟨gb253, 0, none⟩ = some (.int .i64 a0_0) := (blk_cell BK253.out 0).trans rfl; have hcz7_1 : w5.cell? ⟨gb253, 1, none⟩ = some (.int .i64 a0_1) := (blk_cell BK253.out 1).trans rfl; have hcz7_2 : w5.cell? ⟨gb253, 2, none⟩ = some (.int .i64 a0_2) := (blk_cell BK253.out 2).trans rfl; have hfz7_0 := blk_frozen BK253.out 0; have hfz7_1 := blk_frozen BK253.out 1; have hfz7_2 := blk_frozen BK253.out 2; have hcz8_0 : w5.cell? ⟨gb254, 0, none⟩ = some (.int .i64 a1_0) := (blk_cell BK254.out 0).trans rfl; have hcz8_1 : w5.cell? ⟨gb254, 1, none⟩ = some (.int .i64 a1_1) := (blk_cell BK254.out 1).trans rfl; have hcz8_2 : w5.cell? ⟨gb254, 2, none⟩ = some (.int .i64 a1_2) := (blk_cell BK254.out 2).trans rfl; have hfz8_0 := blk_frozen BK254.out 0; have hfz8_1 := blk_frozen BK254.out 1; have hfz8_2 := blk_frozen BK254.out 2) | ((with_reducible refine gate_callee (f := 120) rfl ?_); refine goesL_ (some 10) rfl rfl Try.func120 (by kernel_rfl) rfl #[.int .i64 a0_2, .int .i64 a1_2] rfl (by (try simp only [List.map_toArray, List.map_cons, List.map_nil]); first | done | rfl | (simp only [List.length_drop, List.length_take]; rfl)) ?_; (with_reducible refine (cmp_Compare_int64.calls a0_2 a1_2 t255 _ A3.out).mono ?_); rintro e w' ⟨rfl, ⟨nd, rfl⟩⟩; refine ⟨_, rfl, ?_⟩; refine Stop0.out ?_))); (refine Stop0.mk ?_); (have H := H0_.out); clear H0_; (by_cases c9 : t255 = 0)
 ·(rw [if_pos c9] at H); (have c9b0 : (t255 == 0) = true := beq_iff_eq.mpr c9); (have c9b1 : (t255 != 0) = false := bne_eq_false_iff_eq.mpr c9); clear c9; (replace H := Option.bind_eq_some_iff.mp H); (obtain ⟨t256, A100, H⟩ := H); (try dsimp only at H); (have A10 := A0_ A100); clear A100; (have H0_ := A0_ H); clear H; (have hnb11 := NB253_254.out); (have hnc11 := NB254_253.out); (have hcz12_0 : w5.cell? ⟨gb253, 0, none⟩ = some (.int .i64 a0_0) := (blk_cell BK253.out 0).trans rfl); (have hcz12_1 : w5.cell? ⟨gb253, 1, none⟩ = some (.int .i64 a0_1) := (blk_cell BK253.out 1).trans rfl); (have hcz12_2 : w5.cell? ⟨gb253, 2, none⟩ = some (.int .i64 a0_2) := (blk_cell BK253.out 2).trans rfl); (have hfz12_0 := blk_frozen BK253.out 0); (have hfz12_1 := blk_frozen BK253.out 1); (have hfz12_2 := blk_frozen BK253.out 2); (have hcz13_0 : w5.cell? ⟨gb254, 0, none⟩ = some (.int .i64 a1_0) := (blk_cell BK254.out 0).trans rfl); (have hcz13_1 : w5.cell? ⟨gb254, 1, none⟩ = some (.int .i64 a1_1) := (blk_cell BK254.out 1).trans rfl); (have hcz13_2 : w5.cell? ⟨gb254, 2, none⟩ = some (.int .i64 a1_2) := (blk_cell BK254.out 2).trans rfl); (have hfz13_0 := blk_frozen BK254.out 0); (have hfz13_1 := blk_frozen BK254.out 1); (have hfz13_2 := blk_frozen BK254.out 2); (go_wp2_with (first | ((with_reducible refine gate_callee (f := 121) rfl ?_); refine goesL_ (some 24) rfl rfl Try.func121 (by kernel_rfl) rfl #[.agg #[.int .i64 a0_0, .int .i64 a0_1], .agg #[.int .i64 a1_0, .int .i64 a1_1]] rfl (by (try simp only [List.map_toArray, List.map_cons, List.map_nil]); first | done | rfl | (simp only [List.length_drop, List.length_take]; rfl)) ?_; (with_reducible refine (impl_compareCells.calls a0_0 a0_1 a1_0 a1_1 t256 _ A10.out).mono ?_); rintro e w14 ⟨rfl, hb⟩; refine ⟨_, rfl, ?_⟩; have n0_ := A0_ (blk_below (g := gb253) (o := .cells #[.int .i64 a0_0, .int .i64 a0_1, .int .i64 a0_2] 69 (0, 0)) (bk_ BK253) hb); have n1_ := A0_ (blk_below (g := gb254) (o := .cells #[.int .i64 a1_0, .int .i64 a1_1, .int .i64 a1_2] 69 (0, 0)) (bk_ BK254) hb); have n2_ := A0_ (below_step bx_ hb); clear BK253; clear BK254; clear HB; have BK253 := n0_; have BK254 := n1_; have HB := n2_; clear n0_ n1_ n2_; (try clear hb); (try clear hb2); (try clear hk); (try clear hi); refine Stop0.out ?_))); (refine Stop0.mk ?_); (have H := H0_.out); clear H0_; (obtain rfl := Option.some.inj H); go_wp2; go_ret; (exact ⟨er_, bx_⟩)
 ·(rw [if_neg c9] at H); (have c9b0 : (t255 == 0) = false := beq_eq_false_iff_ne.mpr c9); (have c9b1 : (t255 != 0) = true := bne_iff_ne.mpr c9); (obtain rfl := Option.some.inj H); go_wp2; go_ret; (exact ⟨er_, bx_⟩)
end
theorem coord_eq (a : Int) : impl_isCoordinate.f a = some (inR a (-100) 100) := by
 unfold impl_isCoordinate.f
 rw [within_eq]
 rfl
theorem nan_eq (a : Int) : cmp_isNaN_int64.f a = some false := by
 unfold cmp_isNaN_int64.f
 simp
theorem cmp_eq (a b : Int) : cmp_Compare_int64.f a b = some (if a < b then -1 else if a = b then 0 else 1) := by
 unfold cmp_Compare_int64.f
 rw [nan_eq, nan_eq]
 by_cases h : a < b
 ·simp [h]
 ·by_cases e : a = b
  ·subst e; simp
  ·have : b < a := by omega
   simp [h, e, this]
theorem compare_eq (a b : Cb) : ∃ t : Int, impl_compareCubes.f a.f0 a.f1 a.f2 b.f0 b.f1 b.f2 = some t ∧ decide (t ≥ 0) = !lessC a b := by
 unfold impl_compareCubes.f impl_compareCells.f lessC
 simp only [cmp_eq, Option.bind_some]
 by_cases e2 : a.f2 = b.f2
 ·rw [if_neg (show ¬ a.f2 < b.f2 by omega), if_pos e2, if_pos e2]
  by_cases e1 : a.f1 = b.f1
  ·rw [if_neg (show ¬ a.f1 < b.f1 by omega), if_pos e1, if_pos e1]
   by_cases e0 : a.f0 < b.f0
   ·refine ⟨-1, by simp [e0], ?_⟩
    rw [decide_eq_true e0]; rfl
   ·by_cases e0' : a.f0 = b.f0
    ·refine ⟨0, by simp [e0'], ?_⟩
     rw [decide_eq_false e0]; rfl
    ·refine ⟨1, by simp [e0, e0'], ?_⟩
     rw [decide_eq_false e0]; rfl
  ·by_cases c1 : a.f1 < b.f1
   ·refine ⟨-1, by simp [c1], ?_⟩
    rw [if_neg e1, decide_eq_true c1]; rfl
   ·refine ⟨1, by simp [c1, e1], ?_⟩
    rw [if_neg e1, decide_eq_false c1]; rfl
 ·by_cases c2 : a.f2 < b.f2
  ·refine ⟨-1, by simp [c2], ?_⟩
   rw [if_neg e2, decide_eq_true c2]; rfl
  ·refine ⟨1, by simp [c2, e2], ?_⟩
   rw [if_neg e2, decide_eq_false c2]; rfl
end Go.Proofs.Ytlbckkagjekhnaa.A
/- A whole struct is stored into a block of one's own, over separate resources. -/
namespace Go.Proofs.YtlbckkagjekhnaaW.PrintMore
open Go.RowKit Go.Proofs.YtlbckkagjekhnaaW.PrintWords Go.Proofs.YtlbckkagjekhnaaW.PrintLast
set_option linter.unusedVariables false
theorem setCells_upd (g : Nat) : ∀ (vs : List Value) (o : Nat) (w : World) (cs : Array Value) (t : TypeId), w.heap[g]? = some (.cells cs t (0, 0)) → o + vs.length ≤ cs.size →
  ∃ cs' : Array Value, (w.setCells g o vs).heap[g]? = some (.cells cs' t (0, 0)) ∧ cs'.toList = cs.toList.take o ++ vs ++ cs.toList.drop (o + vs.length) ∧ (w.setCells g o vs).heap.size = w.heap.size
 | [], o, w, cs, t, h, hl => ⟨cs, h, by simp, rfl⟩
 | v :: r, o, w, cs, t, h, hl => by
  have hl' : o + (r.length + 1) ≤ cs.size := hl
  have h1 := blk_put (cs' := cs.setIfInBounds o v) h o v rfl
  obtain ⟨cs', h2, h3, h4⟩ := setCells_upd g r (o + 1) (w.setCell ⟨g, o, none⟩ v) _ t h1 (by simp; omega)
  refine ⟨cs', h2, ?_, h4.trans (by simp [World.setCell])⟩
  rw [h3]
  have hlen : o < cs.toList.length := by rw [Array.length_toList]; omega
  rw [show (cs.setIfInBounds o v).toList = cs.toList.set o v from Array.toList_setIfInBounds, List.length_cons, show o + 1 + r.length = o + (r.length + 1) from by omega]
  rw [List.take_succ_eq_append_getElem (by rw [List.length_set]; exact hlen), List.getElem_set_self, List.take_set_of_le (Nat.le_refl _), List.drop_set_of_lt (by omega)]
  simp
theorem setCells_rest (g : Nat) : ∀ (vs : List Value) (o : Nat) (w : World), (w.setCells g o vs).os = w.os ∧ (w.setCells g o vs).tape = w.tape ∧ (w.setCells g o vs).output = w.output
 | [], _, _ => ⟨rfl, rfl, rfl⟩
 | v :: r, o, w => setCells_rest g r (o + 1) (w.setCell ⟨g, o, none⟩ v)
theorem setCells_far (g k : Nat) (hne : k ≠ g) : ∀ (vs : List Value) (o : Nat) (w : World), (w.setCells g o vs).heap[k]? = w.heap[k]?
 | [], _, _ => rfl
 | v :: r, o, w => (setCells_far g k hne r (o + 1) (w.setCell ⟨g, o, none⟩ v)).trans (Below.heap_setCell w ⟨g, o, none⟩ v k (fun e => hne (by first | exact e | exact e.symm)))
section
variable {P : Program} {w0 w : World} {rs : List Res} {i g : Nat} {cs : Array Value} {t : TypeId}
theorem Sp.blkAll (h : Sp w0 rs w) (hi : rs[i]? = some (Res.blk g cs t)) (cs' : Array Value) (hl : cs'.size = cs.size) : Sp w0 (rs.set i (Res.blk g cs' t)) (w.setCells g 0 cs'.toList) := by
 obtain ⟨h1, _⟩ := Sp.blk h hi
 obtain ⟨c2, h2, h3, h4⟩ := setCells_upd g cs'.toList 0 w cs t h1 (by rw [Array.length_toList]; omega)
 have he : c2 = cs' := by
  apply Array.toList_inj.1
  rw [h3, Array.length_toList, Nat.zero_add, hl, ← Array.length_toList, List.drop_length]
  simp
 subst he
 refine h.upd (r' := Res.blk g c2 t) hi (fun fp hp hb => ⟨⟨(setCells_rest g _ 0 w).1, (setCells_rest g _ 0 w).2.1, (setCells_rest g _ 0 w).2.2, Nat.le_of_eq h4.symm, fun k hk hn => setCells_far g k (fun e => hn (e ▸ hp.1)) _ 0 w⟩, .inl hp.1, h2⟩)
theorem Sp.blkStore (h : Sp w0 rs w) (hi : rs[i]? = some (Res.blk g cs t)) (u : Value) (cs' : Array Value) (hl : cs'.size = cs.size) (hu : u.cells = cs') (ht : (P.info? t).map (·.size) = some cs'.size) (h1 : ∀ q ∈ cs'.toList, q.oneCell' = true) :
  (Instr.storeAt t (.pointer (some ⟨g, 0, none⟩)) u).run P w = .ok () (w.setCells g 0 cs'.toList) := by
 obtain ⟨h2, _⟩ := Sp.blk h hi
 exact run_store_run t u cs'.toList h2 (by rw [hu]) (by rw [ht, Array.length_toList]) (by rw [Array.length_toList]; omega) h1
end
end Go.Proofs.YtlbckkagjekhnaaW.PrintMore

namespace Go.Proofs.Ytlbckkagjekhnaa.A
open Go.RowKit Go.Proofs.YtlbckkagjekhnaaW.PrintWords Go.Proofs.YtlbckkagjekhnaaW.PrintLast Go.Proofs.YtlbckkagjekhnaaW.PrintMore
set_option linter.unusedVariables false
set_option linter.unusedSimpArgs false
def impl_isSolid.f (k : Nat) (l : List Cb) : Option Bool := if l.length ≤ 1048576 then some (solP l) else none
theorem compare_at (a b : Cb) : ∃ t : Int, impl_compareCubes.f a.f0 a.f1 a.f2 b.f0 b.f1 b.f2 = some t ∧ decide (t ≥ 0) = !lessC a b := compare_eq a b
def isoF.T4 : Bool × List (List Nat × List Nat) := (true, [([], []), ([0], [0]), ([1], [1]), ([2], [2]), ([3, 2], [3]), ([4], [4]), ([5, 4], [4, 5]), ([6, 4, 4], [4, 6]), ([7, 4], [4, 7]), ([4, 8], [4, 8]), ([9, 7], [9]), ([10], [10]), ([11, 10], [10, 11]), ([12, 10, 10], [10, 12]), ([13, 10], [10, 13]), ([10, 14], [10, 14]), ([15, 13], [15]), ([16], [16]), ([17, 16], [16, 17]), ([18, 16, 16], [16, 18]), ([19], [19]), ([19], [19]), ([21, 19], [19, 21]), ([20, 22, 19], [19, 20, 22]), ([23, 19], [19, 23]), ([19], [19]), ([24, 25, 19, 19], [19, 24, 25]), ([26, 19], [19, 26]), ([19, 27, 16], [16, 19, 27]), ([16, 28], [16, 28])])
def isoF.B4 : List Nat := [0, 1, 3, 7, 15, 31, 63, 127, 255, 511, 1023, 2047, 4095, 8191, 16383, 32767, 65535, 131071, 262143, 524287, 1048575, 1048575, 3145727, 8388607, 16777215, 1048575, 67108863, 134217727, 268435455, 536870911]
theorem isoF.tab4 : rtab .any (opsOf Try.f80 4) = isoF.T4 := by kernel_rfl
theorem isoF.bits4 : waitsOk isoF.T4.2 isoF.B4 = true := by kernel_rfl
set_option maxHeartbeats 4000000 in
set_option maxRecDepth 100000 in
theorem impl_isSolid.calls (k : Nat) (A0 : Option Addr) (c0 : Nat) (l : List Cb) (r : Bool) (w : World) (hr0 : Kd.C k69 w A0 l.length l) (hc0 : l.length ≤ c0) (h : impl_isSolid.f k l = some r) :
    Calls Try.prog 80 #[.slice A0 l.length c0] w fun e w' => e = .returned (.bool r) ∧ Below w.heap.size w w' := by
 (have hu69 := Try.underlying69); (unfold impl_isSolid.f at h); (split at h)
 case isFalse => cases h
 (rename_i hz); (obtain rfl := Option.some.inj h); (have HR0 := A0_ hr0); (have HZ := A0_ hz); (have HS := A0_ (Sp.start w)); clear hr0 hz h; (go_enter Try.func80, Try.ntmps80); go_wp2
 go_loopg [7] (l.length + 1) (fun kq v7 w' => ∃ (i : Nat), v7 = .int .i64 (i : Int) ∧ Aside0 (i ≤ l.length ∧ kq + i = l.length + 1 ∧ (List.range i).all (solStep l) = true) ∧ Aside0 (Sp w [] w'))
 case atStart => exact ⟨0, rfl, ⟨by omega, by omega, rfl⟩, HS⟩
 case round =>
  clear HS; (obtain ⟨i, rfl, HX, HS⟩ := hrel); (obtain ⟨k1, rfl⟩ : ∃ k1, gk = k1 + 1 := ⟨gk - 1, by have := HX.out; omega⟩); (by_cases ci : i < l.length)
  ·(have ci0 : decide (i < l.length) = true := decide_eq_true ci); (have q0 : (0 ≤ (i : Int)) = True := eq_true (by omega)); (have q1 : ((i : Int) < (l.length : Int)) = True := eq_true (by omega)); (have q2 : (i < l.length) = True := eq_true ci); (have HW := A0_ (wrap_succ i (by have := HZ.out; omega))); (have HNO := A0_ (solP_no l i ci)); (have HNX := A0_ (solP_next l i HX.out.2.2)); (obtain ⟨adl, e, hx0, hx1, hx2⟩ := at_T69 (Kd.C_below HR0.out HS.out.below) (i : Int) (by omega) (by omega)); subst e; (rw [show rd_T69 l (i : Int) = cAt l i from rfl] at hx0 hx1 hx2); (rw [Int.toNat_natCast] at hx0 hx1 hx2); (have hss : solStep l i = (inCb (cAt l i) (-100) 100 && (decide (i = 0) || lessC (cAt l (i - 1)) (cAt l i))) := rfl); (rw [hss] at HNO HNX); clear hss; (have HCI := A0_ ci); (obtain ⟨c, hc⟩ : ∃ c, c = cAt l i := ⟨_, rfl⟩); (rw [← hc] at hx0 hx1 hx2 HNO HNX); clear ci hc; go_wp2; (obtain ⟨gc, hg_⟩ : ∃ g_, g_ = (wr).heap.size := ⟨_, rfl⟩; obtain ⟨wx, hw_⟩ : ∃ w_, w_ = (wr).alloc (.cells #[.int .i64 c.f0, .int .i64 c.f1, .int .i64 c.f2] 69) := ⟨_, rfl⟩; (try rw [← hw_]); (try rw [← hg_]); have HS_ := A0_ (Sp.box HS.out #[.int .i64 c.f0, .int .i64 c.f1, .int .i64 c.f2] 69); rw [← hw_, ← hg_] at HS_; clear HS; have HS := HS_; clear HS_ hw_ hg_); (have HS_ := A0_ (show Sp w ([Res.blk gc #[.int .i64 c.f0, .int .i64 c.f1, .int .i64 c.f2] 69] ++ ([] : List Res)) wx.drew from Sp.drew HS.out)); clear HS hx0 hx1 hx2; (have HS := HS_); clear HS_
   cases b0 : inR c.f0 (-100) 100 with
   | false =>
    (have HB0 := A0_ ((coord_eq c.f0).trans (congrArg some b0))); (have HF := A0_ (HNO.out (by unfold inCb; rw [b0]; rfl))); clear HNO HNX b0
    refine start_ (n := 30) (S := fun w' => w'.cell? ⟨gc, 0, none⟩ = some (.int .i64 c.f0) ∧ w'.cell? ⟨gc, 1, none⟩ = some (.int .i64 c.f1) ∧ w'.cell? ⟨gc, 2, none⟩ = some (.int .i64 c.f2)) (ds := []) #[ff,ff,ff,ff,ff,ff,ff,ff,ff,ff,ff,ff,ff,ff,ff,ff,ff,ff,ff,ff,ff,ff,ff,ff,ff,ff,ff,ff,ff,ff] (by kernel_rfl) rfl rfl (⟨(cl_ HS 0 0 rfl).trans rfl, (cl_ HS 0 1 rfl).trans rfl, (cl_ HS 0 2 rfl).trans rfl⟩) (fun hHeld => ?_)
    refine with_tabW isoF.tab4 isoF.bits4 (fun HT_ HW_ => ?_)
    (generalize wx.drew = wD at HS hHeld ⊢); (refine on_ 0 (some 12) ?_); (refine tk_ 1 (some 13) ?_)
    refine o1_ 2 (some 14) (fun K hK => ?_)
    (refine gs_ Try.func108 #[.int .i64 c.f0] ?_); (refine (impl_isCoordinate.calls c.f0 false _ HB0.out).mono ?_); (rintro e wA11 ⟨rfl, hb⟩); (refine ⟨_, rfl, ?_⟩); (replace HS := A0_ (Sp.far HS.out hb.below)); clear hb
    refine hK.out _ _ (⟨(cl_ HS 0 0 rfl).trans rfl, (cl_ HS 0 1 rfl).trans rfl, (cl_ HS 0 2 rfl).trans rfl⟩) (fun hHeld => ?_)
    clear hK K; (refine nm_ (some 14) ?_); (refine on_ 3 (some 15) ?_); (refine on_ 4 (some 16) ?_); (refine of_ 5 (some 17) ?_); (refine of_ 6 (some 18) ?_); (refine of_ 7 (some 19) ?_); (refine of_ 8 (some 20) ?_); (refine on_ 9 (some 21) ?_); (refine on_ 10 (some 22) ?_); (refine of_ 11 (some 23) ?_); (refine of_ 12 (some 24) ?_); (refine of_ 13 (some 25) ?_); (refine of_ 14 (some 26) ?_); (refine on_ 15 (some 27) ?_); (refine on_ 16 (some 28) ?_); (refine of_ 17 (some 29) ?_); (refine of_ 18 (some 30) ?_); (refine of_ 19 (some 31) ?_); (refine of_ 20 (some 32) ?_); (refine of_ 21 (some 33) ?_); (refine of_ 22 (some 34) ?_); (refine of_ 23 (some 35) ?_); (refine of_ 24 (some 36) ?_); (refine of_ 25 (some 37) ?_); (refine of_ 26 (some 38) ?_); (refine of_ 27 (some 39) ?_); (refine of_ 28 (some 40) ?_); (refine on_ 29 (some 41) ?_); (refine dn_ ?_); go_wp2; go_ret; (exact ⟨by rw [HF.out]; rfl, HS.out.below⟩)
   | true =>
    (have HB0 := A0_ ((coord_eq c.f0).trans (congrArg some b0)))
    cases b1 : inR c.f1 (-100) 100 with
    | false =>
     (have HB1 := A0_ ((coord_eq c.f1).trans (congrArg some b1))); (have HF := A0_ (HNO.out (by unfold inCb; rw [b0, b1]; rfl))); clear HNO HNX b0 b1
     refine start_ (n := 30) (S := fun w' => w'.cell? ⟨gc, 0, none⟩ = some (.int .i64 c.f0) ∧ w'.cell? ⟨gc, 1, none⟩ = some (.int .i64 c.f1) ∧ w'.cell? ⟨gc, 2, none⟩ = some (.int .i64 c.f2)) (ds := []) #[ff,ff,ff,ff,ff,ff,ff,ff,ff,ff,ff,ff,ff,ff,ff,ff,ff,ff,ff,ff,ff,ff,ff,ff,ff,ff,ff,ff,ff,ff] (by kernel_rfl) rfl rfl (⟨(cl_ HS 0 0 rfl).trans rfl, (cl_ HS 0 1 rfl).trans rfl, (cl_ HS 0 2 rfl).trans rfl⟩) (fun hHeld => ?_)
     refine with_tabW isoF.tab4 isoF.bits4 (fun HT_ HW_ => ?_)
     (generalize wx.drew = wD at HS hHeld ⊢); (refine on_ 0 (some 12) ?_); (refine tk_ 1 (some 13) ?_)
     refine o1_ 2 (some 14) (fun K hK => ?_)
     (refine gs_ Try.func108 #[.int .i64 c.f0] ?_); (refine (impl_isCoordinate.calls c.f0 true _ HB0.out).mono ?_); (rintro e wA11 ⟨rfl, hb⟩); (refine ⟨_, rfl, ?_⟩); (replace HS := A0_ (Sp.far HS.out hb.below)); clear hb
     refine hK.out _ _ (⟨(cl_ HS 0 0 rfl).trans rfl, (cl_ HS 0 1 rfl).trans rfl, (cl_ HS 0 2 rfl).trans rfl⟩) (fun hHeld => ?_)
     clear hK K; (refine nm_ (some 14) ?_); (refine on_ 3 (some 15) ?_); (refine on_ 4 (some 16) ?_); (refine on_ 5 (some 17) ?_); (refine tk_ 6 (some 18) ?_)
     refine o1_ 7 (some 19) (fun K hK => ?_)
     (refine gs_ Try.func108 #[.int .i64 c.f1] ?_); (refine (impl_isCoordinate.calls c.f1 false _ HB1.out).mono ?_); (rintro e wA12 ⟨rfl, hb⟩); (refine ⟨_, rfl, ?_⟩); (replace HS := A0_ (Sp.far HS.out hb.below)); clear hb
     refine hK.out _ _ (⟨(cl_ HS 0 0 rfl).trans rfl, (cl_ HS 0 1 rfl).trans rfl, (cl_ HS 0 2 rfl).trans rfl⟩) (fun hHeld => ?_)
     clear hK K; (refine nm_ (some 19) ?_); (refine on_ 8 (some 20) ?_); (refine on_ 9 (some 21) ?_); (refine on_ 10 (some 22) ?_); (refine of_ 11 (some 23) ?_); (refine of_ 12 (some 24) ?_); (refine of_ 13 (some 25) ?_); (refine of_ 14 (some 26) ?_); (refine on_ 15 (some 27) ?_); (refine on_ 16 (some 28) ?_); (refine of_ 17 (some 29) ?_); (refine of_ 18 (some 30) ?_); (refine of_ 19 (some 31) ?_); (refine of_ 20 (some 32) ?_); (refine of_ 21 (some 33) ?_); (refine of_ 22 (some 34) ?_); (refine of_ 23 (some 35) ?_); (refine of_ 24 (some 36) ?_); (refine of_ 25 (some 37) ?_); (refine of_ 26 (some 38) ?_); (refine of_ 27 (some 39) ?_); (refine of_ 28 (some 40) ?_); (refine on_ 29 (some 41) ?_); (refine dn_ ?_); go_wp2; go_ret; (exact ⟨by rw [HF.out]; rfl, HS.out.below⟩)
    | true =>
     (have HB1 := A0_ ((coord_eq c.f1).trans (congrArg some b1)))
     cases b2 : inR c.f2 (-100) 100 with
     | false =>
      (have HB2 := A0_ ((coord_eq c.f2).trans (congrArg some b2))); (have HF := A0_ (HNO.out (by unfold inCb; rw [b0, b1, b2]; rfl))); clear HNO HNX b0 b1 b2
      refine start_ (n := 30) (S := fun w' => w'.cell? ⟨gc, 0, none⟩ = some (.int .i64 c.f0) ∧ w'.cell? ⟨gc, 1, none⟩ = some (.int .i64 c.f1) ∧ w'.cell? ⟨gc, 2, none⟩ = some (.int .i64 c.f2)) (ds := []) #[ff,ff,ff,ff,ff,ff,ff,ff,ff,ff,ff,ff,ff,ff,ff,ff,ff,ff,ff,ff,ff,ff,ff,ff,ff,ff,ff,ff,ff,ff] (by kernel_rfl) rfl rfl (⟨(cl_ HS 0 0 rfl).trans rfl, (cl_ HS 0 1 rfl).trans rfl, (cl_ HS 0 2 rfl).trans rfl⟩) (fun hHeld => ?_)
      refine with_tabW isoF.tab4 isoF.bits4 (fun HT_ HW_ => ?_)
      (generalize wx.drew = wD at HS hHeld ⊢); (refine on_ 0 (some 12) ?_); (refine tk_ 1 (some 13) ?_)
      refine o1_ 2 (some 14) (fun K hK => ?_)
      (refine gs_ Try.func108 #[.int .i64 c.f0] ?_); (refine (impl_isCoordinate.calls c.f0 true _ HB0.out).mono ?_); (rintro e wA11 ⟨rfl, hb⟩); (refine ⟨_, rfl, ?_⟩); (replace HS := A0_ (Sp.far HS.out hb.below)); clear hb
      refine hK.out _ _ (⟨(cl_ HS 0 0 rfl).trans rfl, (cl_ HS 0 1 rfl).trans rfl, (cl_ HS 0 2 rfl).trans rfl⟩) (fun hHeld => ?_)
      clear hK K; (refine nm_ (some 14) ?_); (refine on_ 3 (some 15) ?_); (refine on_ 4 (some 16) ?_); (refine on_ 5 (some 17) ?_); (refine tk_ 6 (some 18) ?_)
      refine o1_ 7 (some 19) (fun K hK => ?_)
      (refine gs_ Try.func108 #[.int .i64 c.f1] ?_); (refine (impl_isCoordinate.calls c.f1 true _ HB1.out).mono ?_); (rintro e wA12 ⟨rfl, hb⟩); (refine ⟨_, rfl, ?_⟩); (replace HS := A0_ (Sp.far HS.out hb.below)); clear hb
      refine hK.out _ _ (⟨(cl_ HS 0 0 rfl).trans rfl, (cl_ HS 0 1 rfl).trans rfl, (cl_ HS 0 2 rfl).trans rfl⟩) (fun hHeld => ?_)
      clear hK K; (refine nm_ (some 19) ?_); (refine on_ 8 (some 20) ?_); (refine on_ 9 (some 21) ?_); (refine on_ 10 (some 22) ?_); (refine on_ 11 (some 23) ?_); (refine tk_ 12 (some 24) ?_)
      refine o1_ 13 (some 25) (fun K hK => ?_)
      (refine gs_ Try.func108 #[.int .i64 c.f2] ?_); (refine (impl_isCoordinate.calls c.f2 false _ HB2.out).mono ?_); (rintro e wA13 ⟨rfl, hb⟩); (refine ⟨_, rfl, ?_⟩); (replace HS := A0_ (Sp.far HS.out hb.below)); clear hb
      refine hK.out _ _ (⟨(cl_ HS 0 0 rfl).trans rfl, (cl_ HS 0 1 rfl).trans rfl, (cl_ HS 0 2 rfl).trans rfl⟩) (fun hHeld => ?_)
      clear hK K; (refine nm_ (some 25) ?_); (refine on_ 14 (some 26) ?_); (refine on_ 15 (some 27) ?_); (refine on_ 16 (some 28) ?_); (refine of_ 17 (some 29) ?_); (refine of_ 18 (some 30) ?_); (refine of_ 19 (some 31) ?_); (refine of_ 20 (some 32) ?_); (refine of_ 21 (some 33) ?_); (refine of_ 22 (some 34) ?_); (refine of_ 23 (some 35) ?_); (refine of_ 24 (some 36) ?_); (refine of_ 25 (some 37) ?_); (refine of_ 26 (some 38) ?_); (refine of_ 27 (some 39) ?_); (refine of_ 28 (some 40) ?_); (refine on_ 29 (some 41) ?_); (refine dn_ ?_); go_wp2; go_ret; (exact ⟨by rw [HF.out]; rfl, HS.out.below⟩)
     | true =>
      (have HB2 := A0_ ((coord_eq c.f2).trans (congrArg some b2))); (have hin : inCb c (-100) 100 = true := by unfold inCb; rw [b0, b1, b2]; rfl); (rw [hin, Bool.true_and] at HNO HNX); clear b0 b1 b2 hin; (by_cases hi0 : i = 0)
      ·subst hi0; (have HN := A0_ (HNX.out rfl)); clear HNO HNX
       refine start_ (n := 30) (S := fun w' => w'.cell? ⟨gc, 0, none⟩ = some (.int .i64 c.f0) ∧ w'.cell? ⟨gc, 1, none⟩ = some (.int .i64 c.f1) ∧ w'.cell? ⟨gc, 2, none⟩ = some (.int .i64 c.f2)) (ds := []) #[ff,ff,ff,ff,ff,ff,ff,ff,ff,ff,ff,ff,ff,ff,ff,ff,ff,ff,ff,ff,ff,ff,ff,ff,ff,ff,ff,ff,ff,ff] (by kernel_rfl) rfl rfl (⟨(cl_ HS 0 0 rfl).trans rfl, (cl_ HS 0 1 rfl).trans rfl, (cl_ HS 0 2 rfl).trans rfl⟩) (fun hHeld => ?_)
       refine with_tabW isoF.tab4 isoF.bits4 (fun HT_ HW_ => ?_)
       (generalize wx.drew = wD at HS hHeld ⊢); (refine on_ 0 (some 12) ?_); (refine tk_ 1 (some 13) ?_)
       refine o1_ 2 (some 14) (fun K hK => ?_)
       (refine gs_ Try.func108 #[.int .i64 c.f0] ?_); (refine (impl_isCoordinate.calls c.f0 true _ HB0.out).mono ?_); (rintro e wA11 ⟨rfl, hb⟩); (refine ⟨_, rfl, ?_⟩); (replace HS := A0_ (Sp.far HS.out hb.below)); clear hb
       refine hK.out _ _ (⟨(cl_ HS 0 0 rfl).trans rfl, (cl_ HS 0 1 rfl).trans rfl, (cl_ HS 0 2 rfl).trans rfl⟩) (fun hHeld => ?_)
       clear hK K; (refine nm_ (some 14) ?_); (refine on_ 3 (some 15) ?_); (refine on_ 4 (some 16) ?_); (refine on_ 5 (some 17) ?_); (refine tk_ 6 (some 18) ?_)
       refine o1_ 7 (some 19) (fun K hK => ?_)
       (refine gs_ Try.func108 #[.int .i64 c.f1] ?_); (refine (impl_isCoordinate.calls c.f1 true _ HB1.out).mono ?_); (rintro e wA12 ⟨rfl, hb⟩); (refine ⟨_, rfl, ?_⟩); (replace HS := A0_ (Sp.far HS.out hb.below)); clear hb
       refine hK.out _ _ (⟨(cl_ HS 0 0 rfl).trans rfl, (cl_ HS 0 1 rfl).trans rfl, (cl_ HS 0 2 rfl).trans rfl⟩) (fun hHeld => ?_)
       clear hK K; (refine nm_ (some 19) ?_); (refine on_ 8 (some 20) ?_); (refine on_ 9 (some 21) ?_); (refine on_ 10 (some 22) ?_); (refine on_ 11 (some 23) ?_); (refine tk_ 12 (some 24) ?_)
       refine o1_ 13 (some 25) (fun K hK => ?_)
       (refine gs_ Try.func108 #[.int .i64 c.f2] ?_); (refine (impl_isCoordinate.calls c.f2 true _ HB2.out).mono ?_); (rintro e wA13 ⟨rfl, hb⟩); (refine ⟨_, rfl, ?_⟩); (replace HS := A0_ (Sp.far HS.out hb.below)); clear hb
       refine hK.out _ _ (⟨(cl_ HS 0 0 rfl).trans rfl, (cl_ HS 0 1 rfl).trans rfl, (cl_ HS 0 2 rfl).trans rfl⟩) (fun hHeld => ?_)
       clear hK K; (refine nm_ (some 25) ?_); (refine on_ 14 (some 26) ?_); (refine on_ 15 (some 27) ?_); (refine on_ 16 (some 28) ?_); (refine on_ 17 (some 29) ?_); (refine on_ 18 (some 30) ?_); (refine on_ 19 (some 31) ?_); (refine of_ 20 (some 32) ?_); (refine of_ 21 (some 33) ?_); (refine of_ 22 (some 34) ?_); (refine of_ 23 (some 35) ?_); (refine of_ 24 (some 36) ?_); (refine of_ 25 (some 37) ?_); (refine of_ 26 (some 38) ?_); (refine of_ 27 (some 39) ?_); (refine on_ 28 (some 40) ?_); (refine on_ 29 (some 41) ?_); (refine dn_ ?_); go_wp2; (replace HS := A0_ (show Sp w [] _ from Sp.tail HS.out)); (go_roundg k1)
       case measure => omega
       case rel =>
        (exact ⟨1, rfl, ⟨by have := HCI.out; omega, by have := HX.out; omega, HN.out⟩, HS⟩)
      ·(have d0 : decide (0 < i) = true := decide_eq_true (by omega)); (have d1 : (0 < i) = True := eq_true (by omega)); (have d2 : decide ((0 : Int) < (i : Int)) = true := decide_eq_true (by omega)); (have d3 : ((0 : Int) < (i : Int)) = True := eq_true (by omega)); (have e1 : wrap64 ((i : Int) - 1) = ((i - 1 : Nat) : Int) := by rw [wrap_id (by omega) (by have := HZ.out; have := HCI.out; omega)]; omega); (have p0 : (0 ≤ ((i - 1 : Nat) : Int)) = True := eq_true (by omega)); (have p1 : (((i - 1 : Nat) : Int) < (l.length : Int)) = True := eq_true (by have := HCI.out; omega)); (have p2 : (i - 1 < l.length) = True := eq_true (by have := HCI.out; omega)); (rw [decide_eq_false hi0, Bool.false_or] at HNO HNX); (obtain ⟨ad2, e, hx0, hx1, hx2⟩ := at_T69 HR0.out ((i - 1 : Nat) : Int) (by omega) (by have := HCI.out; omega)); (injection e with e); subst e; (rw [show rd_T69 l ((i - 1 : Nat) : Int) = cAt l (i - 1) from rfl] at hx0 hx1 hx2); (rw [Int.toNat_natCast] at hx0 hx1 hx2); (obtain ⟨q, hq⟩ : ∃ q, q = cAt l (i - 1) := ⟨_, rfl⟩); (rw [← hq] at hx0 hx1 hx2 HNO HNX); (have HQ0 := A0_ hx0); (have HQ1 := A0_ hx1); (have HQ2 := A0_ hx2); (obtain ⟨t, ht, htl⟩ := compare_at q c); (have HCM := A0_ ht); (have HTL := A0_ htl); clear hx0 hx1 hx2 hq ht htl hi0
       refine start_ (n := 30) (S := fun w' => w'.cell? ⟨gc, 0, none⟩ = some (.int .i64 c.f0) ∧ w'.cell? ⟨gc, 1, none⟩ = some (.int .i64 c.f1) ∧ w'.cell? ⟨gc, 2, none⟩ = some (.int .i64 c.f2) ∧ w'.cell? (adl.add ((i - 1) * 3)) = some (.int .i64 q.f0) ∧ w'.cell? ⟨(adl.add ((i - 1) * 3)).block, (adl.add ((i - 1) * 3)).off + 1, none⟩ = some (.int .i64 q.f1) ∧ w'.cell? ⟨(adl.add ((i - 1) * 3)).block, (adl.add ((i - 1) * 3)).off + 2, none⟩ = some (.int .i64 q.f2)) (ds := []) #[ff,ff,ff,ff,ff,ff,ff,ff,ff,ff,ff,ff,ff,ff,ff,ff,ff,ff,ff,ff,ff,ff,ff,ff,ff,ff,ff,ff,ff,ff] (by kernel_rfl) rfl rfl (⟨(cl_ HS 0 0 rfl).trans rfl, (cl_ HS 0 1 rfl).trans rfl, (cl_ HS 0 2 rfl).trans rfl, pw_cell_below HS.out.below HQ0.out, pw_cell_below HS.out.below HQ1.out, pw_cell_below HS.out.below HQ2.out⟩) (fun hHeld => ?_)
       refine with_tabW isoF.tab4 isoF.bits4 (fun HT_ HW_ => ?_)
       (generalize wx.drew = wD at HS hHeld ⊢); (refine on_ 0 (some 12) ?_); (refine tk_ 1 (some 13) ?_)
       refine o1_ 2 (some 14) (fun K hK => ?_)
       (refine gs_ Try.func108 #[.int .i64 c.f0] ?_); (refine (impl_isCoordinate.calls c.f0 true _ HB0.out).mono ?_); (rintro e wA11 ⟨rfl, hb⟩); (refine ⟨_, rfl, ?_⟩); (replace HS := A0_ (Sp.far HS.out hb.below)); clear hb
       refine hK.out _ _ (⟨(cl_ HS 0 0 rfl).trans rfl, (cl_ HS 0 1 rfl).trans rfl, (cl_ HS 0 2 rfl).trans rfl, pw_cell_below HS.out.below HQ0.out, pw_cell_below HS.out.below HQ1.out, pw_cell_below HS.out.below HQ2.out⟩) (fun hHeld => ?_)
       clear hK K; (refine nm_ (some 14) ?_); (refine on_ 3 (some 15) ?_); (refine on_ 4 (some 16) ?_); (refine on_ 5 (some 17) ?_); (refine tk_ 6 (some 18) ?_)
       refine o1_ 7 (some 19) (fun K hK => ?_)
       (refine gs_ Try.func108 #[.int .i64 c.f1] ?_); (refine (impl_isCoordinate.calls c.f1 true _ HB1.out).mono ?_); (rintro e wA12 ⟨rfl, hb⟩); (refine ⟨_, rfl, ?_⟩); (replace HS := A0_ (Sp.far HS.out hb.below)); clear hb
       refine hK.out _ _ (⟨(cl_ HS 0 0 rfl).trans rfl, (cl_ HS 0 1 rfl).trans rfl, (cl_ HS 0 2 rfl).trans rfl, pw_cell_below HS.out.below HQ0.out, pw_cell_below HS.out.below HQ1.out, pw_cell_below HS.out.below HQ2.out⟩) (fun hHeld => ?_)
       clear hK K; (refine nm_ (some 19) ?_); (refine on_ 8 (some 20) ?_); (refine on_ 9 (some 21) ?_); (refine on_ 10 (some 22) ?_); (refine on_ 11 (some 23) ?_); (refine tk_ 12 (some 24) ?_)
       refine o1_ 13 (some 25) (fun K hK => ?_)
       (refine gs_ Try.func108 #[.int .i64 c.f2] ?_); (refine (impl_isCoordinate.calls c.f2 true _ HB2.out).mono ?_); (rintro e wA13 ⟨rfl, hb⟩); (refine ⟨_, rfl, ?_⟩); (replace HS := A0_ (Sp.far HS.out hb.below)); clear hb
       refine hK.out _ _ (⟨(cl_ HS 0 0 rfl).trans rfl, (cl_ HS 0 1 rfl).trans rfl, (cl_ HS 0 2 rfl).trans rfl, pw_cell_below HS.out.below HQ0.out, pw_cell_below HS.out.below HQ1.out, pw_cell_below HS.out.below HQ2.out⟩) (fun hHeld => ?_)
       clear hK K; (refine nm_ (some 25) ?_); (refine on_ 14 (some 26) ?_); (refine on_ 15 (some 27) ?_); (refine on_ 16 (some 28) ?_); (refine on_ 17 (some 29) ?_); (refine on_ 18 (some 30) ?_); (refine on_ 19 (some 31) ?_); (refine on_ 20 (some 32) ?_); (refine on_ 21 (some 33) ?_); (refine on_ 22 (some 34) ?_); (refine on_ 23 (some 35) ?_); (refine tk_ 24 (some 36) ?_); (refine tk_ 25 (some 37) ?_)
       refine o1_ 26 (some 38) (fun K hK => ?_)
       (refine gs_ Try.func109 #[.agg #[.int .i64 q.f0, .int .i64 q.f1, .int .i64 q.f2], .agg #[.int .i64 c.f0, .int .i64 c.f1, .int .i64 c.f2]] ?_); (refine (impl_compareCubes.calls q.f0 q.f1 q.f2 c.f0 c.f1 c.f2 t _ HCM.out).mono ?_); (rintro e wA14 ⟨rfl, hb⟩); (refine ⟨_, rfl, ?_⟩); (replace HS := A0_ (Sp.far HS.out hb)); clear hb
       refine hK.out _ _ (⟨(cl_ HS 0 0 rfl).trans rfl, (cl_ HS 0 1 rfl).trans rfl, (cl_ HS 0 2 rfl).trans rfl, pw_cell_below HS.out.below HQ0.out, pw_cell_below HS.out.below HQ1.out, pw_cell_below HS.out.below HQ2.out⟩) (fun hHeld => ?_)
       clear hK K; (refine nm_ (some 38) ?_); (refine on_ 27 (some 39) ?_); (refine on_ 28 (some 40) ?_); (refine on_ 29 (some 41) ?_); (refine dn_ ?_)
       cases hls : lessC q c with
       | true =>
        (have HN := A0_ (HNX.out hls)); (have ht0 : decide (0 ≤ t) = false := by have h := HTL.out; rw [hls] at h; exact h); (have ht1 : (0 ≤ t) = False := eq_false (of_decide_eq_false ht0)); (have ht2 : (t < 0) = True := eq_true (by have := of_decide_eq_false ht0; omega)); clear hls; (rw [ht0]); go_wp2; (replace HS := A0_ (show Sp w [] _ from Sp.tail HS.out)); (go_roundg k1)
        case measure => omega
        case rel =>
         (rw [HW.out]); (exact ⟨i + 1, rfl, ⟨by have := HCI.out; omega, by have := HX.out; omega, HN.out⟩, HS⟩)
       | false =>
        (have HF := A0_ (HNO.out hls)); (have ht0 : decide (0 ≤ t) = true := by have h := HTL.out; rw [hls] at h; exact h); (have ht1 : (0 ≤ t) = True := eq_true (of_decide_eq_true ht0)); (have ht2 : (t < 0) = False := eq_false (by have := of_decide_eq_true ht0; omega)); clear hls; (rw [ht0]); go_wp2; go_ret; (exact ⟨by rw [HF.out]; rfl, HS.out.below⟩)
  ·(have ci0 : decide (i < l.length) = false := decide_eq_false ci); (have ci1 : (i < l.length) = False := eq_false ci); (have hi : i = l.length := by have := HX.out; omega); (have HF := A0_ (solP_end l (hi ▸ HX.out.2.2))); (have HF2 := A0_ (inR_len l.length)); clear ci hi; go_wp2
   ·go_ret; (exact ⟨by rw [HF.out]; unfold inR; rw [decide_eq_true (show (1 : Int) ≤ (l.length : Int) by omega), Bool.true_and]; rfl, HS.out.below⟩)
   ·go_ret; (exact ⟨by rw [HF.out]; unfold inR; rw [decide_eq_false (show ¬ (1 : Int) ≤ (l.length : Int) by omega), Bool.false_and]; rfl, HS.out.below⟩)
section
attribute [local go_sem] max2_int min2_int max_two min_two max_three min_three max_four min_four
def impl_cubesAround.f (a0_0 : Int) (a0_1 : Int) (a0_2 : Int) : Option ((List (S69))) := some (([(⟨a0_0, a0_1, wrap64 (a0_2 - 1)⟩ : S69), (⟨a0_0, wrap64 (a0_1 - 1), a0_2⟩ : S69), (⟨wrap64 (a0_0 - 1), a0_1, a0_2⟩ : S69), (⟨wrap64 (a0_0 + 1), a0_1, a0_2⟩ : S69), (⟨a0_0, wrap64 (a0_1 + 1), a0_2⟩ : S69), (⟨a0_0, a0_1, wrap64 (a0_2 + 1)⟩ : S69)] : List (S69)))
set_option maxHeartbeats 8000000 in
set_option maxRecDepth 100000 in
theorem impl_cubesAround.calls (a0_0 : Int) (a0_1 : Int) (a0_2 : Int) (r : List (S69)) (w : World) (h : impl_cubesAround.f a0_0 a0_1 a0_2 = some r) :
    Calls Try.prog 110 #[.agg #[.int .i64 a0_0, .int .i64 a0_1, .int .i64 a0_2]] w fun e w' => ∃ v0_ : Value, e = .returned (v0_) ∧ Kd.R k69 69 w' w.heap.size (fun _ => True) v0_ r ∧ Below w.heap.size w w' := by
 (have hu69 := Try.underlying69); (have HB := A0_ (Below.refl w.heap.size w)); (have H : (some (([(⟨a0_0, a0_1, wrap64 (a0_2 - 1)⟩ : S69), (⟨a0_0, wrap64 (a0_1 - 1), a0_2⟩ : S69), (⟨wrap64 (a0_0 - 1), a0_1, a0_2⟩ : S69), (⟨wrap64 (a0_0 + 1), a0_1, a0_2⟩ : S69), (⟨a0_0, wrap64 (a0_1 + 1), a0_2⟩ : S69), (⟨a0_0, a0_1, wrap64 (a0_2 + 1)⟩ : S69)] : List (S69)))) = some r := h); clear h; (obtain ⟨y265, hy265⟩ : ∃ y_ : List (S69), y_ = (([(⟨a0_0, a0_1, wrap64 (a0_2 - 1)⟩ : S69), (⟨a0_0, wrap64 (a0_1 - 1), a0_2⟩ : S69), (⟨wrap64 (a0_0 - 1), a0_1, a0_2⟩ : S69), (⟨wrap64 (a0_0 + 1), a0_1, a0_2⟩ : S69), (⟨a0_0, wrap64 (a0_1 + 1), a0_2⟩ : S69), (⟨a0_0, a0_1, wrap64 (a0_2 + 1)⟩ : S69)] : List (S69))) := ⟨_, rfl⟩); (replace H : (some y265) = some r := by first | (rw [hy265]; with_reducible exact H) | (have H2_ := (Option.bind_some _ _).symm.trans H; rw [hy265]; with_reducible exact H2_) | (have H2_ := (Option.bind_some _ _).symm.trans H; with_reducible exact H2_) | with_reducible exact H | (rw [hy265]; exact H) | exact H); (have Ny265 := A0_ hy265); clear hy265; (obtain rfl := Option.some.inj H); (go_enter Try.func110, Try.ntmps110)
 go_wp2_with (first | ((with_reducible refine gate_dst (N := 1) rfl ?_); refine be_ (N := 1) (cs := #[.int .i64 a0_0, .int .i64 a0_1, .int .i64 a0_2]) (t := 69) ?_; intro gb264 hg w2 hbox hb; have n0_ := A0_ (below_step bw_ hb); have n1_ := A0_ (hbox); have n2_ := A0_ ((by rw [hg]; exact (below_size bw_) : w.heap.size ≤ gb264)); have n3_ := A0_ ((by rw [hg]; exact (below_size bw_) : w.heap.size ≤ gb264)); clear HB; have HB := n0_; have BK264 := n1_; have GW264 := n2_; have GE264 := n3_; clear n0_ n1_ n2_ n3_; clear hb hbox hg; have hcz3_0 : w2.cell? ⟨gb264, 0, none⟩ = some (.int .i64 a0_0) := (blk_cell BK264.out 0).trans rfl; have hcz3_1 : w2.cell? ⟨gb264, 1, none⟩ = some (.int .i64 a0_1) := (blk_cell BK264.out 1).trans rfl; have hcz3_2 : w2.cell? ⟨gb264, 2, none⟩ = some (.int .i64 a0_2) := (blk_cell BK264.out 2).trans rfl; have hfz3_0 := blk_frozen BK264.out 0; have hfz3_1 := blk_frozen BK264.out 1; have hfz3_2 := blk_frozen BK264.out 2) | ((with_reducible refine gate_dst (N := 51) rfl ?_); refine Kd.R_lit k69 _ 69 ?hg (N := 51) ?hd (xs := ([(⟨a0_0, a0_1, wrap64 (a0_2 - 1)⟩ : S69), (⟨a0_0, wrap64 (a0_1 - 1), a0_2⟩ : S69), (⟨wrap64 (a0_0 - 1), a0_1, a0_2⟩ : S69), (⟨wrap64 (a0_0 + 1), a0_1, a0_2⟩ : S69), (⟨a0_0, wrap64 (a0_1 + 1), a0_2⟩ : S69), (⟨a0_0, a0_1, wrap64 (a0_2 + 1)⟩ : S69)] : List (S69))) (inner := [.int .i64 a0_0, .int .i64 a0_1, .int .i64 (wrap64 (a0_2 - 1)), .int .i64 a0_0, .int .i64 (wrap64 (a0_1 - 1)), .int .i64 a0_2, .int .i64 (wrap64 (a0_0 - 1)), .int .i64 a0_1, .int .i64 a0_2, .int .i64 (wrap64 (a0_0 + 1)), .int .i64 a0_1, .int .i64 a0_2, .int .i64 a0_0, .int .i64 (wrap64 (a0_1 + 1)), .int .i64 a0_2, .int .i64 a0_0, .int .i64 a0_1, .int .i64 (wrap64 (a0_2 + 1))]) (ok := fun _ => True) (okp := fun _ => True) ?hr ?hp (fun _ hk => hk) trivial (Below.refl _ _) (Nat.le_refl _) (by simp) ?_; (case hd => rfl); (case hg => rfl); (case hr => first | (go_simp; done) | (go_simp; rfl)); (case hp => exact (Reps.c3 (show Kd.M k69 _ _ _ (⟨a0_0, a0_1, wrap64 (a0_2 - 1)⟩ : S69) [.int .i64 a0_0, .int .i64 a0_1, .int .i64 (wrap64 (a0_2 - 1))] from (k69_mkM _ _ _ (⟨a0_0, a0_1, wrap64 (a0_2 - 1)⟩ : S69) )) (Reps.c3 (show Kd.M k69 _ _ _ (⟨a0_0, wrap64 (a0_1 - 1), a0_2⟩ : S69) [.int .i64 a0_0, .int .i64 (wrap64 (a0_1 - 1)), .int .i64 a0_2] from (k69_mkM _ _ _ (⟨a0_0, wrap64 (a0_1 - 1), a0_2⟩ : S69) )) (Reps.c3 (show Kd.M k69 _ _ _ (⟨wrap64 (a0_0 - 1), a0_1, a0_2⟩ : S69) [.int .i64 (wrap64 (a0_0 - 1)), .int .i64 a0_1, .int .i64 a0_2] from (k69_mkM _ _ _ (⟨wrap64 (a0_0 - 1), a0_1, a0_2⟩ : S69) )) (Reps.c3 (show Kd.M k69 _ _ _ (⟨wrap64 (a0_0 + 1), a0_1, a0_2⟩ : S69) [.int .i64 (wrap64 (a0_0 + 1)), .int .i64 a0_1, .int .i64 a0_2] from (k69_mkM _ _ _ (⟨wrap64 (a0_0 + 1), a0_1, a0_2⟩ : S69) )) (Reps.c3 (show Kd.M k69 _ _ _ (⟨a0_0, wrap64 (a0_1 + 1), a0_2⟩ : S69) [.int .i64 a0_0, .int .i64 (wrap64 (a0_1 + 1)), .int .i64 a0_2] from (k69_mkM _ _ _ (⟨a0_0, wrap64 (a0_1 + 1), a0_2⟩ : S69) )) (Reps.c3 (show Kd.M k69 _ _ _ (⟨a0_0, a0_1, wrap64 (a0_2 + 1)⟩ : S69) [.int .i64 a0_0, .int .i64 a0_1, .int .i64 (wrap64 (a0_2 + 1))] from (k69_mkM _ _ _ (⟨a0_0, a0_1, wrap64 (a0_2 + 1)⟩ : S69) )) (Reps.none _ _)))))))); intro v266 w4 ho5 hb hg_ hnew_; clear hg_ hnew_; (first | rw [← Ny265.out] at ho5 | (simp only [Int.reduceToNat] at ho5; rw [← Ny265.out] at ho5)); have n0_ := A0_ (Kd.R_lower (Kd.R_newB ho5 (g := gb264) (o := .cells #[.int .i64 a0_0, .int .i64 a0_1, .int .i64 a0_2] 69 (0, 0)) (bk_ BK264)) (below_size bx_)); have n1_ := A0_ (blk_below (g := gb264) (o := .cells #[.int .i64 a0_0, .int .i64 a0_1, .int .i64 a0_2] 69 (0, 0)) (bk_ BK264) hb); have n2_ := A0_ (below_step bx_ hb); clear BK264; clear HB; have HO267 := n0_; have BK264 := n1_; have HB := n2_; clear n0_ n1_ n2_; clear hb ho5))
 go_ret
 exact ⟨_, by first | rfl | (simp [errW_none, errW_some] <;> rfl) | (simp [*, errW_none, errW_some] <;> rfl), by (with_reducible repeat (first | apply Ra_ | apply Rn_ | apply Rd_)); exact Kd.R_mono HO267.out (fun _ hk => trivial), by repeat (first | (with_reducible first | exact HB.out | apply ba_ | apply bn_ | apply bd_ | refine below_set ?_ GE264.out) | exact HB.out)⟩
end
section
attribute [local go_sem] max2_int min2_int max_two min_two max_three min_three max_four min_four
mutual
def impl_connectedCubes.l0 : Nat → List (S69) → List (S69) → Int → Option (Bool)
  | 0, _, _, _ => none
  | k + 1, x0, x3, x4 => if x4 < (x3.length : Int) then (if 0 ≤ x4 then ((impl_cubesAround.f ((rd_T69 x3 x4).f0) ((rd_T69 x3 x4).f1) ((rd_T69 x3 x4).f2)).bind fun t277 => (impl_connectedCubes.l1 k x0 x3 x4 t277 (t277.length : Int) 0)) else (none)) else (some ((x3.length : Int) == (x0.length : Int)))
def impl_connectedCubes.l1 : Nat → List (S69) → List (S69) → Int → List (S69) → Int → Int → Option (Bool)
  | 0, _, _, _, _, _, _ => none
  | k + 1, x0, x3, x4, x21, x22, x23 => if x23 < x22 then (if 0 ≤ x23 then (if x23 < (x21.length : Int) then ((impl_Cube_111.f k x0 ((rd_T69 x21 x23).f0) ((rd_T69 x21 x23).f1) ((rd_T69 x21 x23).f2)).bind fun t282 => (if t282 = true then ((impl_Cube_111.f k x3 ((rd_T69 x21 x23).f0) ((rd_T69 x21 x23).f1) ((rd_T69 x21 x23).f2)).bind fun t283 => (if t283 = true then (impl_connectedCubes.l1 k x0 x3 x4 x21 x22 (wrap64 (x23 + 1))) else (if x3.length < 5864062014805 then (impl_connectedCubes.l1 k x0 (x3 ++ [(⟨(rd_T69 x21 x23).f0, (rd_T69 x21 x23).f1, (rd_T69 x21 x23).f2⟩ : S69)]) x4 x21 x22 (wrap64 (x23 + 1))) else (none)))) else (impl_connectedCubes.l1 k x0 x3 x4 x21 x22 (wrap64 (x23 + 1))))) else (none)) else (none)) else (impl_connectedCubes.l0 k x0 x3 (wrap64 (x4 + 1)))
end
def impl_connectedCubes.f (k : Nat) (l0 : List (S69)) : Option (Bool) := if 0 < (l0.length : Int) then (impl_connectedCubes.l0 k l0 (([(⟨(rd_T69 l0 0).f0, (rd_T69 l0 0).f1, (rd_T69 l0 0).f2⟩ : S69)] : List (S69))) 0) else (none)
set_option maxHeartbeats 8000000 in
set_option maxRecDepth 100000 in
theorem impl_connectedCubes.calls (k : Nat) (A0 : Option Addr) (c0 : Nat) (l0 : List (S69)) (r : Bool) (w : World) (hr0 : Kd.C k69 w A0 l0.length l0) (hc0 : l0.length ≤ c0) (h : impl_connectedCubes.f k l0 = some r) :
    Calls Try.prog 81 #[.slice A0 l0.length c0] w fun e w' => e = .returned (.bool r) ∧ Below w.heap.size w w' := by
 (have hu69 := Try.underlying69); (have HR0 := A0_ hr0); (have HC0 := A0_ hc0); clear hr0 hc0; (have HB := A0_ (Below.refl w.heap.size w)); (have H : (if 0 < (l0.length : Int) then (impl_connectedCubes.l0 k l0 (([(⟨(rd_T69 l0 0).f0, (rd_T69 l0 0).f1, (rd_T69 l0 0).f2⟩ : S69)] : List (S69))) 0) else (none)) = some r := h); clear h; (by_cases c2 : 0 < (l0.length : Int))
 ·(rw [if_pos c2] at H); (have c2b0 : decide (0 < (l0.length : Int)) = true := decide_eq_true c2); (have c2b1 : decide (0 < l0.length) = true := decide_eq_true (by omega)); clear c2; (obtain ⟨y273, hy273⟩ : ∃ y_ : List (S69), y_ = (([(⟨(rd_T69 l0 0).f0, (rd_T69 l0 0).f1, (rd_T69 l0 0).f2⟩ : S69)] : List (S69))) := ⟨_, rfl⟩); (replace H : (impl_connectedCubes.l0 k l0 y273 0) = some r := by first | (rw [hy273]; with_reducible exact H) | (have H2_ := (Option.bind_some _ _).symm.trans H; rw [hy273]; with_reducible exact H2_) | (have H2_ := (Option.bind_some _ _).symm.trans H; with_reducible exact H2_) | with_reducible exact H | (rw [hy273]; exact H) | exact H); (have Ny273 := A0_ hy273); clear hy273; (have H' := A0_ H); clear H; (have p272 : 0 ≤ (0 : Int) := (by omega)); (have q272 : 0 < (l0.length : Int) := of_decide_eq_true as_); (obtain ⟨ad272, e272, hx272_0, hx272_1, hx272_2⟩ := at_T69 HR0.out 0 p272 q272); (cases e272); (have qi272 : (0 < l0.length) = True := eq_true (by omega)); ((try rw [show ((0 : Int)).toNat = 0 from rfl] at hx272_0)); ((try rw [show 0 * 3 = 0 from rfl] at hx272_0)); ((try rw [Addr.add_zero'] at hx272_0)); ((try rw [show ((0 : Int)).toNat = 0 from rfl] at hx272_1)); ((try rw [show 0 * 3 = 0 from rfl] at hx272_1)); ((try rw [Addr.add_zero'] at hx272_1)); ((try rw [show ((0 : Int)).toNat = 0 from rfl] at hx272_2)); ((try rw [show 0 * 3 = 0 from rfl] at hx272_2)); ((try rw [Addr.add_zero'] at hx272_2)); (replace p272 := eq_true p272); (replace q272 := eq_true q272); (go_enter Try.func81, Try.ntmps81)
  go_wp2_with (first | ((with_reducible refine gate_dst (N := 10) rfl ?_); refine Kd.R_lit k69 _ 69 ?hg (N := 10) ?hd (xs := ([(⟨(rd_T69 l0 0).f0, (rd_T69 l0 0).f1, (rd_T69 l0 0).f2⟩ : S69)] : List (S69))) (inner := [.int .i64 ((rd_T69 l0 0).f0), .int .i64 ((rd_T69 l0 0).f1), .int .i64 ((rd_T69 l0 0).f2)]) (ok := fun _ => True) (okp := fun _ => True) ?hr ?hp (fun _ hk => hk) trivial (Below.refl _ _) (Nat.le_refl _) (by simp) ?_; (case hd => rfl); (case hg => rfl); (case hr => first | (go_simp; done) | (go_simp; rfl)); (case hp => exact (Reps.c3 (show Kd.M k69 _ _ _ (⟨(rd_T69 l0 0).f0, (rd_T69 l0 0).f1, (rd_T69 l0 0).f2⟩ : S69) [.int .i64 ((rd_T69 l0 0).f0), .int .i64 ((rd_T69 l0 0).f1), .int .i64 ((rd_T69 l0 0).f2)] from (k69_mkM _ _ _ (⟨(rd_T69 l0 0).f0, (rd_T69 l0 0).f1, (rd_T69 l0 0).f2⟩ : S69) )) (Reps.none _ _))); intro v274 w3 ho4 hb hg_ hnew_; clear hg_ hnew_; (first | rw [← Ny273.out] at ho4 | (simp only [Int.reduceToNat] at ho4; rw [← Ny273.out] at ho4)); have n0_ := A0_ (Kd.R_lower ho4 (below_size bw_)); have n1_ := A0_ (below_step bw_ hb); clear HB; have HO275 := n0_; have HB := n1_; clear n0_ n1_; clear hb ho4))
  go_loopg [3, 4] k (fun kq v3 v4 w' => ∃ (x3_1 : List (S69)) (x4_1 : Int), v4 = .int .i64 x4_1 ∧ Aside0 (impl_connectedCubes.l0 kq l0 x3_1 x4_1 = some r) ∧ Aside0 (kq ≤ k) ∧ Aside0 (Kd.R k69 69 w' w.heap.size (fun _ => True) v3 x3_1) ∧ Aside0 (Below w.heap.size w w'))
  case atStart => exact ⟨(y273), (0), (by first | rfl | (simp; done) | (simp [*]; done)), H', ⟨Nat.le_refl _⟩, ⟨by (with_reducible repeat (first | apply Ra_ | apply Rn_ | apply Rd_)); exact HO275.out⟩, ⟨by repeat (first | (with_reducible first | exact HB.out | apply ba_ | apply bn_ | apply bd_) | exact HB.out)⟩⟩
  case round =>
   clear H'; (try clear c2); (try clear c2b0); (try clear c2b1); (try clear p2); (try clear q2); (try clear hx2); (try clear qi2); (try clear c3); (try clear hx272_0); (try clear hx272_1); (try clear hx272_2); (try clear p272); (try clear q272); (obtain ⟨x3_1, x4_1, rfl, HA, HK1, HO_3, HB⟩ := hrel)
   cases gk with
   | zero => exact absurd HA.out (by simp [impl_connectedCubes.l0])
   | succ k1 =>
    (have H := HA.out); clear HA; (simp only [impl_connectedCubes.l0] at H); (by_cases c5 : x4_1 < (x3_1.length : Int))
    ·(rw [if_pos c5] at H); (have c5b0 : decide (x4_1 < (x3_1.length : Int)) = true := decide_eq_true c5); clear c5; (by_cases c6 : 0 ≤ x4_1)
     ·(rw [if_pos c6] at H); (have c6b0 : decide (0 ≤ x4_1) = true := decide_eq_true c6); clear c6; (replace H := Option.bind_eq_some_iff.mp H); (obtain ⟨t277, A70, H⟩ := H); (try dsimp only at H); (have A7 := A0_ A70); clear A70; (have H0_ := A0_ H); clear H; (obtain ⟨Ao8, co8, eo8⟩ := Kd.R_slice HO_3.out); subst eo8; (have p276 : 0 ≤ (x4_1 : Int) := of_decide_eq_true as_); (have q276 : x4_1 < (x3_1.length : Int) := of_decide_eq_true as_); (obtain ⟨ad276, e276, hx276_0, hx276_1, hx276_2⟩ := at_T69 (Kd.R_reads' HO_3.out).2.2 x4_1 p276 q276); (cases e276); (replace p276 := eq_true p276); (replace q276 := eq_true q276); (go_wp2_with (first | ((with_reducible refine gate_callee (f := 110) rfl ?_); refine goesL_ (some 21) rfl rfl Try.func110 (by kernel_rfl) rfl #[.agg #[.int .i64 ((rd_T69 x3_1 x4_1).f0), .int .i64 ((rd_T69 x3_1 x4_1).f1), .int .i64 ((rd_T69 x3_1 x4_1).f2)]] rfl (by (try simp only [List.map_toArray, List.map_cons, List.map_nil]); first | done | rfl | (simp only [List.length_drop, List.length_take]; rfl)) ?_; (with_reducible refine (impl_cubesAround.calls ((rd_T69 x3_1 x4_1).f0) ((rd_T69 x3_1 x4_1).f1) ((rd_T69 x3_1 x4_1).f2) t277 _ A7.out).mono ?_); rintro e w9 ⟨v278, rfl, ho0, hb⟩; refine ⟨_, rfl, ?_⟩; have n0_ := A0_ (Kd.R_elder' (by (with_reducible repeat (first | apply Ra_ | apply Rn_ | apply Rd_)); exact HO_3.out) (Kd.R_base ho0) hb); have n1_ := A0_ (Kd.R_lower (Kd.R_new' ho0 (Kd.R_lt (by (with_reducible repeat (first | apply Ra_ | apply Rn_ | apply Rd_)); exact HO_3.out))) (below_size bw_)); have n2_ := A0_ (below_step bw_ hb); clear HO_3; clear HB; have HO_3 := n0_; have HO279 := n1_; have HB := n2_; clear n0_ n1_ n2_; (try clear hb); (try clear hb2); (try clear hk); (try clear hi); (try clear ho0); refine Stop0.out ?_))); (refine Stop0.mk ?_); (have H := H0_.out); clear H0_; (have H' := A0_ H); clear H; (obtain ⟨Ao10, co10, eo10⟩ := Kd.R_slice HO279.out); subst eo10; go_wp2
      go_loopg [3, 23] k1 (fun kq v3 v23 w' => ∃ (x3_2 : List (S69)) (x23_2 : Int), v23 = .int .i64 x23_2 ∧ Aside0 (impl_connectedCubes.l1 kq l0 x3_2 x4_1 t277 (t277.length : Int) x23_2 = some r) ∧ Aside0 (kq ≤ k1) ∧ Aside0 (Kd.R k69 69 w' w.heap.size (fun k_ => some k_ ≠ ((.slice Ao10 t277.length co10) : Value).ownBlock) v3 x3_2) ∧ Aside0 (Kd.R k69 69 w' w.heap.size (fun k_ => some k_ ≠ (v3 : Value).ownBlock) (.slice Ao10 t277.length co10) t277) ∧ Aside0 (Below w.heap.size w w'))
      case atStart => exact ⟨(x3_1), (0), (by first | rfl | (simp; done) | (simp [*]; done)), H', ⟨Nat.le_refl _⟩, ⟨by (with_reducible repeat (first | apply Ra_ | apply Rn_ | apply Rd_)); exact Kd.R_mono HO_3.out (fun _ hk => hk.2)⟩, ⟨by (with_reducible repeat (first | apply Ra_ | apply Rn_ | apply Rd_)); exact Kd.R_mono HO279.out (fun _ hk => hk.2)⟩, ⟨by repeat (first | (with_reducible first | exact HB.out | apply ba_ | apply bn_ | apply bd_) | exact HB.out)⟩⟩
      case round =>
       clear H'; (try clear c1); (try clear c2); (try clear c2b0); (try clear c2b1); (try clear p2); (try clear q2); (try clear hx2); (try clear qi2); (try clear c3); (try clear c5); (try clear c5b0); (try clear c6); (try clear c6b0); (try clear c8); (try clear hx272_0); (try clear hx272_1); (try clear hx272_2); (try clear hx276_0); (try clear hx276_1); (try clear hx276_2); (try clear p2); (try clear p272); (try clear p276); (try clear q2); (try clear q272); (try clear q276); (obtain ⟨x3_2, x23_2, rfl, HA, HK2, HO_3, HO_21, HB⟩ := hrel)
       cases gk with
       | zero => exact absurd HA.out (by simp [impl_connectedCubes.l1])
       | succ k2 =>
        (have H := HA.out); clear HA; (simp only [impl_connectedCubes.l1] at H); (by_cases c11 : x23_2 < (t277.length : Int))
        ·(rw [if_pos c11] at H); (have c11b0 : decide (x23_2 < (t277.length : Int)) = true := decide_eq_true c11); clear c11; (by_cases c12 : 0 ≤ x23_2)
         ·(rw [if_pos c12] at H); (have c12b0 : decide (0 ≤ x23_2) = true := decide_eq_true c12); clear c12; (by_cases c13 : x23_2 < (t277.length : Int))
          ·(rw [if_pos c13] at H); (have c13b0 : decide (x23_2 < (t277.length : Int)) = true := decide_eq_true c13); clear c13; (replace H := Option.bind_eq_some_iff.mp H); (obtain ⟨t282, A140, H⟩ := H); (try dsimp only at H); (have A14 := A0_ A140); clear A140; (have H0_ := A0_ H); clear H; (have p280 : 0 ≤ (x23_2 : Int) := of_decide_eq_true as_); (have q280 : x23_2 < (t277.length : Int) := of_decide_eq_true as_); (obtain ⟨ad280, e280, hx280_0, hx280_1, hx280_2⟩ := at_T69 (Kd.R_reads' HO_21.out).2.2 x23_2 p280 q280); (cases e280); (replace p280 := eq_true p280); (replace q280 := eq_true q280)
           go_wp2_with (first | ((with_reducible refine gate_dst (N := 6) rfl ?_); refine be_ (N := 6) (cs := #[.int .i64 0, .int .i64 0, .int .i64 0]) (t := 69) ?_; intro gb281 hg w15 hbox hb; have n0_ := A0_ (Kd.R_below (Kd.R_elderB (by (with_reducible repeat (first | apply Ra_ | apply Rn_ | apply Rd_)); exact HO_3.out) gb281 (Nat.le_of_eq hg.symm)) hb); have n1_ := A0_ (Kd.R_below (Kd.R_elderB (by (with_reducible repeat (first | apply Ra_ | apply Rn_ | apply Rd_)); exact HO_21.out) gb281 (Nat.le_of_eq hg.symm)) hb); have n2_ := A0_ (below_step bw_ hb); have n3_ := A0_ (hbox); have n4_ := A0_ ((by rw [hg]; exact (below_size bw_) : w.heap.size ≤ gb281)); have n5_ := A0_ ((by rw [hg]; exact (below_size bw_) : w.heap.size ≤ gb281)); clear HO_3; clear HO_21; clear HB; have HO_3 := n0_; have HO_21 := n1_; have HB := n2_; have BK281 := n3_; have GW281 := n4_; have GE281 := n5_; clear n0_ n1_ n2_ n3_ n4_ n5_; clear hb hbox hg; have hcz16_0 : w15.cell? ⟨gb281, 0, none⟩ = some (.int .i64 0) := (blk_cell BK281.out 0).trans rfl; have hcz16_1 : w15.cell? ⟨gb281, 1, none⟩ = some (.int .i64 0) := (blk_cell BK281.out 1).trans rfl; have hcz16_2 : w15.cell? ⟨gb281, 2, none⟩ = some (.int .i64 0) := (blk_cell BK281.out 2).trans rfl; have hfz16_0 := blk_frozen BK281.out 0; have hfz16_1 := blk_frozen BK281.out 1; have hfz16_2 := blk_frozen BK281.out 2) | ((with_reducible refine gate_callee (f := 111) rfl ?_); refine goesL_ (some 29) rfl rfl Try.func111 (by kernel_rfl) rfl #[.slice (some ad272) l0.length c0, .agg #[.int .i64 ((rd_T69 t277 x23_2).f0), .int .i64 ((rd_T69 t277 x23_2).f1), .int .i64 ((rd_T69 t277 x23_2).f2)]] rfl (by (try simp only [List.map_toArray, List.map_cons, List.map_nil]); first | done | rfl | (simp only [List.length_drop, List.length_take]; rfl)) ?_; (with_reducible refine (impl_Cube_111.calls k2 _ _ l0 ((rd_T69 t277 x23_2).f0) ((rd_T69 t277 x23_2).f1) ((rd_T69 t277 x23_2).f2) t282 _ ?side1 ?side2 A14.out).mono ?_); (case side1 => exact Kd.C_below HR0.out bx_); (case side2 => exact HC0.out); rintro e w17 ⟨rfl, hb⟩; refine ⟨_, rfl, ?_⟩; have n0_ := A0_ (Kd.R_below (by (with_reducible repeat (first | apply Ra_ | apply Rn_ | apply Rd_)); exact (Kd.R_mono (Kd.R_far (p := ⟨gb281, 2, none⟩) (Kd.R_far (p := ⟨gb281, 1, none⟩) (Kd.R_far (p := ⟨gb281, 0, none⟩) (Kd.R_mono HO_3.out (fun k_ hk => (⟨hk, hk.2⟩ : _ ∧ k_ ≠ gb281))) (fun _ hk => hk.2) (.int .i64 ((rd_T69 t277 x23_2).f0))) (fun _ hk => hk.2) (.int .i64 ((rd_T69 t277 x23_2).f1))) (fun _ hk => hk.2) (.int .i64 ((rd_T69 t277 x23_2).f2))) (fun _ h_ => h_.1))) hb); have n1_ := A0_ (Kd.R_below (by (with_reducible repeat (first | apply Ra_ | apply Rn_ | apply Rd_)); exact (Kd.R_mono (Kd.R_far (p := ⟨gb281, 2, none⟩) (Kd.R_far (p := ⟨gb281, 1, none⟩) (Kd.R_far (p := ⟨gb281, 0, none⟩) (Kd.R_mono HO_21.out (fun k_ hk => (⟨hk, hk.2⟩ : _ ∧ k_ ≠ gb281))) (fun _ hk => hk.2) (.int .i64 ((rd_T69 t277 x23_2).f0))) (fun _ hk => hk.2) (.int .i64 ((rd_T69 t277 x23_2).f1))) (fun _ hk => hk.2) (.int .i64 ((rd_T69 t277 x23_2).f2))) (fun _ h_ => h_.1))) hb); have n2_ := A0_ (blk_below (g := gb281) (o := .cells #[.int .i64 ((rd_T69 t277 x23_2).f0), .int .i64 ((rd_T69 t277 x23_2).f1), .int .i64 ((rd_T69 t277 x23_2).f2)] 69 (0, 0)) (by (with_reducible repeat (first | apply gn_ | apply gd_ | apply ga_)); refine blk_put (cs := #[.int .i64 ((rd_T69 t277 x23_2).f0), .int .i64 ((rd_T69 t277 x23_2).f1), .int .i64 0]) ?_ 2 _ rfl; (with_reducible repeat (first | apply gn_ | apply gd_ | apply ga_)); refine blk_put (cs := #[.int .i64 ((rd_T69 t277 x23_2).f0), .int .i64 0, .int .i64 0]) ?_ 1 _ rfl; (with_reducible repeat (first | apply gn_ | apply gd_ | apply ga_)); refine blk_put (cs := #[.int .i64 0, .int .i64 0, .int .i64 0]) ?_ 0 _ rfl; (with_reducible repeat (first | apply gn_ | apply gd_ | apply ga_)); exact BK281.out) hb); have n3_ := A0_ (below_step bx_ hb); clear HO_3; clear HO_21; clear BK281; clear HB; have HO_3 := n0_; have HO_21 := n1_; have BK281 := n2_; have HB := n3_; clear n0_ n1_ n2_ n3_; (try clear hb); (try clear hb2); (try clear hk); (try clear hi); refine Stop0.out ?_))
           (refine Stop0.mk ?_); (have H := H0_.out); clear H0_; (by_cases c18 : t282 = true)
           ·subst c18; (have H1 := H); (rw [if_pos rfl] at H1); clear H; (have H := H1); clear H1; (replace H := Option.bind_eq_some_iff.mp H); (obtain ⟨t283, A190, H⟩ := H); (try dsimp only at H); (have A19 := A0_ A190); clear A190; (have H0_ := A0_ H); clear H; (have hcz20_0 : w17.cell? ⟨gb281, 0, none⟩ = some (.int .i64 ((rd_T69 t277 x23_2).f0)) := (blk_cell BK281.out 0).trans rfl); (have hcz20_1 : w17.cell? ⟨gb281, 1, none⟩ = some (.int .i64 ((rd_T69 t277 x23_2).f1)) := (blk_cell BK281.out 1).trans rfl); (have hcz20_2 : w17.cell? ⟨gb281, 2, none⟩ = some (.int .i64 ((rd_T69 t277 x23_2).f2)) := (blk_cell BK281.out 2).trans rfl); (have hfz20_0 := blk_frozen BK281.out 0); (have hfz20_1 := blk_frozen BK281.out 1); (have hfz20_2 := blk_frozen BK281.out 2); (obtain ⟨Ao21, co21, eo21⟩ := Kd.R_slice HO_3.out); subst eo21; (go_wp2_with (first | (go_at_call 111; (with_reducible refine (impl_Cube_111.calls k2 _ _ x3_2 ((rd_T69 t277 x23_2).f0) ((rd_T69 t277 x23_2).f1) ((rd_T69 t277 x23_2).f2) t283 _ ?side1 ?side2 A19.out).mono ?_); (case side1 => repeat (first | exact (Kd.R_reads' HO_3.out).2.2 | (with_reducible refine Kd.C_alloc ?_ _) | (with_reducible refine Kd.C_drewN ?_ _) | (with_reducible refine Kd.C_drew ?_))); (case side2 => exact (Kd.R_reads' HO_3.out).2.1); rintro e w22 ⟨rfl, hb⟩; have n0_ := A0_ (Kd.R_below (by (with_reducible repeat (first | apply Ra_ | apply Rn_ | apply Rd_)); exact HO_3.out) hb); have n1_ := A0_ (Kd.R_below (by (with_reducible repeat (first | apply Ra_ | apply Rn_ | apply Rd_)); exact HO_21.out) hb); have n2_ := A0_ (blk_below (g := gb281) (o := .cells #[.int .i64 ((rd_T69 t277 x23_2).f0), .int .i64 ((rd_T69 t277 x23_2).f1), .int .i64 ((rd_T69 t277 x23_2).f2)] 69 (0, 0)) (bk_ BK281) hb); have n3_ := A0_ (below_step bx_ hb); clear HO_3; clear HO_21; clear BK281; clear HB; have HO_3 := n0_; have HO_21 := n1_; have BK281 := n2_; have HB := n3_; clear n0_ n1_ n2_ n3_; (try clear hb); (try clear hb2); (try clear hk); (try clear hi); refine Stop0.out ?_))); (refine Stop0.mk ?_); (have H := H0_.out); clear H0_; (by_cases c23 : t283 = true)
            ·subst c23; (have H1 := H); (rw [if_pos rfl] at H1); clear H; (have H := H1); clear H1; (have H' := A0_ H); clear H; go_wp2; (go_roundg k2)
             case measure => have := HK1.out; have := HK2.out; omega
             case rel => exact ⟨(x3_2), (wrap64 (x23_2 + 1)), (by first | rfl | (simp; done) | (simp [*]; done)), H', ⟨by have := HK1.out; have := HK2.out; omega⟩, ⟨by (with_reducible repeat (first | apply Ra_ | apply Rn_ | apply Rd_)); exact Kd.R_mono HO_3.out (fun _ hk => hk.1)⟩, ⟨by (with_reducible repeat (first | apply Ra_ | apply Rn_ | apply Rd_)); exact Kd.R_mono HO_21.out (fun _ hk => hk.1)⟩, ⟨by repeat (first | (with_reducible first | exact HB.out | apply ba_ | apply bn_ | apply bd_ | refine below_set ?_ GE281.out) | exact HB.out)⟩⟩
            ·(replace c23 := Bool.eq_false_iff.mpr c23); subst c23; (have H1 : (if x3_2.length < 5864062014805 then (impl_connectedCubes.l1 k2 l0 (x3_2 ++ [(⟨(rd_T69 t277 x23_2).f0, (rd_T69 t277 x23_2).f1, (rd_T69 t277 x23_2).f2⟩ : S69)]) x4_1 t277 (t277.length : Int) (wrap64 (x23_2 + 1))) else (none)) = some r := by rw [if_neg (show ¬ (false = true) by decide)] at H; exact H); clear H; (have H := H1); clear H1; (by_cases c24 : x3_2.length < 5864062014805)
             ·(rw [if_pos c24] at H); (have LMc24 := A0_ c24); clear c24; (obtain ⟨y284, hy284⟩ : ∃ y_ : List (S69), y_ = (x3_2 ++ [(⟨(rd_T69 t277 x23_2).f0, (rd_T69 t277 x23_2).f1, (rd_T69 t277 x23_2).f2⟩ : S69)]) := ⟨_, rfl⟩); (replace H : (impl_connectedCubes.l1 k2 l0 y284 x4_1 t277 (t277.length : Int) (wrap64 (x23_2 + 1))) = some r := by first | (rw [hy284]; with_reducible exact H) | (have H2_ := (Option.bind_some _ _).symm.trans H; rw [hy284]; with_reducible exact H2_) | (have H2_ := (Option.bind_some _ _).symm.trans H; with_reducible exact H2_) | with_reducible exact H | (rw [hy284]; exact H) | exact H); (have Ny284 := A0_ hy284); clear hy284; (have H' := A0_ H); clear H; (have hcz25_0 : w22.cell? ⟨gb281, 0, none⟩ = some (.int .i64 ((rd_T69 t277 x23_2).f0)) := (blk_cell BK281.out 0).trans rfl); (have hcz25_1 : w22.cell? ⟨gb281, 1, none⟩ = some (.int .i64 ((rd_T69 t277 x23_2).f1)) := (blk_cell BK281.out 1).trans rfl); (have hcz25_2 : w22.cell? ⟨gb281, 2, none⟩ = some (.int .i64 ((rd_T69 t277 x23_2).f2)) := (blk_cell BK281.out 2).trans rfl); (have hfz25_0 := blk_frozen BK281.out 0); (have hfz25_1 := blk_frozen BK281.out 1); (have hfz25_2 := blk_frozen BK281.out 2)
              go_wp2_with (first | ((with_reducible refine gate_builtin (b := .append) (xs := #[.tmp 36, .tmp 38]) rfl ?_); at_builtin; refine Kd.R_append k69 (w0 := w) w.heap.size rfl (.tmp 36) (.tmp 38) 34 69 (.agg #[(.int .i64 0), (.int .i64 0), (.int .i64 0)]) 24 rfl Try.underlying34 info69 rfl (by decide) (by omega) (.slice Ao21 x3_2.length co21) x3_2 (⟨(rd_T69 t277 x23_2).f0, (rd_T69 t277 x23_2).f1, (rd_T69 t277 x23_2).f2⟩ : S69) [.int .i64 ((rd_T69 t277 x23_2).f0), .int .i64 ((rd_T69 t277 x23_2).f1), .int .i64 ((rd_T69 t277 x23_2).f2)] (fun k_ => some k_ ≠ (.slice (some ad280) t277.length co10 : Value).ownBlock ∧ k_ ≠ gb281) (fun _ => False) rfl rfl ?aP (fun _ hk => hk.elim) ?aF ?aO ?aB ?aS ?aL ?_; (case aP => exact k69_mkM _ _ _ (⟨(rd_T69 t277 x23_2).f0, (rd_T69 t277 x23_2).f1, (rd_T69 t277 x23_2).f2⟩ : S69)); (case aB => exact bx_); (case aF => exact (fun k_ hk => ⟨Kd.fresh' (Kd.R_lt (by (with_reducible repeat (first | apply Ra_ | apply Rn_ | apply Rd_)); exact HO_21.out)) k_ hk, Kd.freshB (g := gb281) (o := .cells #[.int .i64 ((rd_T69 t277 x23_2).f0), .int .i64 ((rd_T69 t277 x23_2).f1), .int .i64 ((rd_T69 t277 x23_2).f2)] 69 (0, 0)) (bk_ BK281) k_ hk⟩)); (case aO => exact (by (with_reducible repeat (first | apply Ra_ | apply Rn_ | apply Rd_)); exact HO_3.out)); (case aS => exact (below_size bx_)); (case aL => have := LMc24.out; omega); intro v285 w26 ho hb hg hat; rw [← Ny284.out] at ho; have n0_ := A0_ (Kd.R_after (ok := (fun k_ => k_ ≠ gb281)) (by (with_reducible repeat (first | apply Ra_ | apply Rn_ | apply Rd_)); exact Kd.R_mono HO_21.out (fun _ hk => ⟨hk.2, hk.1⟩)) hg hat); have n1_ := A0_ (blk_grown (g := gb281) (o := .cells #[.int .i64 ((rd_T69 t277 x23_2).f0), .int .i64 ((rd_T69 t277 x23_2).f1), .int .i64 ((rd_T69 t277 x23_2).f2)] 69 (0, 0)) (bk_ BK281) hg (Kd.R_away HO_3.out (fun _ hk => hk.2))); have n2_ := A0_ (hb); have n3_ := A0_ (ho); clear HO_21; clear BK281; clear HB; clear HO_3; have HO_21 := n0_; have BK281 := n1_; have HB := n2_; have HO286 := n3_; clear n0_ n1_ n2_ n3_; clear ho hb hg hat))
              (go_roundg k2)
              case measure => have := HK1.out; have := HK2.out; omega
              case rel => exact ⟨(y284), (wrap64 (x23_2 + 1)), (by first | rfl | (simp; done) | (simp [*]; done)), H', ⟨by have := HK1.out; have := HK2.out; omega⟩, ⟨by (with_reducible repeat (first | apply Ra_ | apply Rn_ | apply Rd_)); exact Kd.R_mono HO286.out (fun _ hk => hk.1)⟩, ⟨by (with_reducible repeat (first | apply Ra_ | apply Rn_ | apply Rd_)); exact Kd.R_mono HO_21.out (fun _ hk => hk.2)⟩, ⟨by repeat (first | (with_reducible first | exact HB.out | apply ba_ | apply bn_ | apply bd_ | refine below_set ?_ GE281.out) | exact HB.out)⟩⟩
             ·(rw [if_neg c24] at H); (exact absurd H (by simp))
           ·(replace c18 := Bool.eq_false_iff.mpr c18); subst c18; (have H1 : (impl_connectedCubes.l1 k2 l0 x3_2 x4_1 t277 (t277.length : Int) (wrap64 (x23_2 + 1))) = some r := by rw [if_neg (show ¬ (false = true) by decide)] at H; exact H); clear H; (have H := H1); clear H1; (have H' := A0_ H); clear H; go_wp2; (go_roundg k2)
            case measure => have := HK1.out; have := HK2.out; omega
            case rel => exact ⟨(x3_2), (wrap64 (x23_2 + 1)), (by first | rfl | (simp; done) | (simp [*]; done)), H', ⟨by have := HK1.out; have := HK2.out; omega⟩, ⟨by (with_reducible repeat (first | apply Ra_ | apply Rn_ | apply Rd_)); exact Kd.R_mono HO_3.out (fun _ hk => hk.1)⟩, ⟨by (with_reducible repeat (first | apply Ra_ | apply Rn_ | apply Rd_)); exact Kd.R_mono HO_21.out (fun _ hk => hk.1)⟩, ⟨by repeat (first | (with_reducible first | exact HB.out | apply ba_ | apply bn_ | apply bd_ | refine below_set ?_ GE281.out) | exact HB.out)⟩⟩
          ·(rw [if_neg c13] at H); (exact absurd H (by simp))
         ·(rw [if_neg c12] at H); (exact absurd H (by simp))
        ·(rw [if_neg c11] at H); (have c11b0 : decide (x23_2 < (t277.length : Int)) = false := decide_eq_false c11); clear c11; (have H' := A0_ H); clear H; go_wp2; (go_roundg k2)
         case measure => have := HK1.out; have := HK2.out; omega
         case rel => exact ⟨(x3_2), (wrap64 (x4_1 + 1)), (by first | rfl | (simp; done) | (simp [*]; done)), H', ⟨by have := HK1.out; have := HK2.out; omega⟩, ⟨by (with_reducible repeat (first | apply Ra_ | apply Rn_ | apply Rd_)); exact Kd.R_mono HO_3.out (fun _ hk => trivial)⟩, ⟨by repeat (first | (with_reducible first | exact HB.out | apply ba_ | apply bn_ | apply bd_) | exact HB.out)⟩⟩
     ·(rw [if_neg c6] at H); (exact absurd H (by simp))
    ·(rw [if_neg c5] at H); (have c5b0 : decide (x4_1 < (x3_1.length : Int)) = false := decide_eq_false c5); clear c5; (obtain rfl := Option.some.inj H); (obtain ⟨Ao27, co27, eo27⟩ := Kd.R_slice HO_3.out); subst eo27; go_wp2; go_ret; (exact ⟨er_, bx_⟩)
 ·(rw [if_neg c2] at H); (exact absurd H (by simp))
end
def partOk (sol con : List Cb → Bool) (p : List Cb) : Bool := sol p && (con p && !p.any (fun c => !inCb c 0 7))
def isAsmP (sol con : List Cb → Bool) (parts : List (List Cb)) : Bool := (decide (2 ≤ parts.length) && decide (parts.length ≤ 4)) && (parts.all (partOk sol con) && clearP parts (zerosC parts.length))
set_option maxHeartbeats 1000000 in
set_option maxRecDepth 100000 in
theorem in7_pred (w : World) : PredC w 83 #[] (fun c => !inCb c 0 7) := by
 refine ⟨_, Try.func83, by kernel_rfl, by kernel_rfl, ?_⟩
 intro c w' hb
 have hu69 := Try.underlying69
 have HS := A0_ (Sp.start w')
 have HIN := A0_ (inCube_eq c 0 7)
 dsimp only
 generalize inCb c 0 7 = b at HIN ⊢
 clear hb
 show Calls Try.prog 83 #[vC c] w' _
 go_enter Try.func83, Try.ntmps83
 go_wp2_with (first
  | ((with_reducible refine gate_dst (N := 1) rfl ?_); refine be_ (N := 1) (cs := #[.int .i64 c.f0, .int .i64 c.f1, .int .i64 c.f2]) (t := 69) ?_; intro gc hgb_ wb_ hcb_ hbb_; replace HS := A0_ (Sp.boxed HS.out hgb_ hcb_ hbb_); clear hgb_ hcb_ hbb_; have hc0 := (cl_ HS 0 0 rfl).trans rfl; have hc1 := (cl_ HS 0 1 rfl).trans rfl; have hc2 := (cl_ HS 0 2 rfl).trans rfl)
  | (go_at_call 84; refine (impl_inCube.calls c.f0 c.f1 c.f2 0 7 b _ HIN.out).mono ?_; rintro e wc_ ⟨rfl, hb_⟩; replace HS := A0_ (Sp.far HS.out hb_); clear hb_ hc0 hc1 hc2))
 go_ret
 exact ⟨rfl, HS.out.below⟩
def isAsmF.T9 : Bool × List (List Nat × List Nat) := (true, [([], []), ([0], [0]), ([], []), ([2], [2]), ([3], [3]), ([4, 4], [4]), ([1, 5, 1], [1, 5]), ([6, 6, 0, 1, 2, 3, 4, 5, 6], [6])])
def isAsmF.B9 : List Nat := [0, 1, 0, 4, 12, 28, 63, 127]
theorem isAsmF.tab9 : rtab .any (opsOf Try.f56 9) = isAsmF.T9 := by kernel_rfl
theorem isAsmF.bits9 : waitsOk isAsmF.T9.2 isAsmF.B9 = true := by kernel_rfl
set_option maxHeartbeats 4000000 in
set_option maxRecDepth 100000 in
theorem isAssembly_calls (w0 : World) (Ap : Option Addr) (cp : Nat) (parts : List (List Cb)) (hP : kP.C w0 Ap parts.length parts) (hsz : ∀ p ∈ parts, p.length ≤ 1048576) (sol con : List Cb → Bool) (hsol : ∀ p ∈ parts, ∃ K, impl_isSolid.f K p = some (sol p)) (hcon : ∀ p ∈ parts, sol p = true → ∃ K, impl_connectedCubes.f K p = some (con p)) (rest : List Res) (w : World) (hs : Sp w0 rest w) :
  Calls Try.prog 56 #[.agg #[.slice Ap parts.length cp]] w fun e w' => e = .returned (.bool (isAsmP sol con parts)) ∧ Sp w0 rest w' := by
 have hu32 := Try.underlying32
 have HS := A0_ hs
 have HP := A0_ hP
 have HSZ := A0_ hsz
 have HSOL := A0_ hsol
 have HCON := A0_ hcon
 clear hs hP hsz hsol hcon
 by_cases c1 : parts.length < 2
 ·have d0 : decide ((parts.length : Int) < 2) = true := decide_eq_true (by omega)
  have d1 : ((parts.length : Int) < 2) = True := eq_true (by omega)
  have d2 : (parts.length < 2) = True := eq_true c1
  have HN := A0_ (show isAsmP sol con parts = false by unfold isAsmP; rw [decide_eq_false (show ¬ 2 ≤ parts.length by omega)]; rfl)
  clear c1
  go_enter Try.func56, Try.ntmps56
  go_wp2_with (first
   | ((with_reducible refine gate_dst (N := 1) rfl ?_); refine be_ (N := 1) (cs := #[.slice Ap parts.length cp]) (t := 32) ?_; intro ga hgb_ wb_ hcb_ hbb_; replace HS := A0_ (Sp.boxed HS.out hgb_ hcb_ hbb_); clear hgb_ hcb_ hbb_; have ha0 := (cl_ HS 0 0 rfl).trans rfl))
  go_ret
  exact ⟨by rw [HN.out]; rfl, Sp.tail HS.out⟩
 by_cases c2 : 4 < parts.length
 ·have d0 : decide ((parts.length : Int) < 2) = false := decide_eq_false (by omega)
  have d1 : ((parts.length : Int) < 2) = False := eq_false (by omega)
  have d2 : (parts.length < 2) = False := eq_false c1
  have d3 : decide ((4 : Int) < (parts.length : Int)) = true := decide_eq_true (by omega)
  have d4 : ((4 : Int) < (parts.length : Int)) = True := eq_true (by omega)
  have d5 : (4 < parts.length) = True := eq_true c2
  have HN := A0_ (show isAsmP sol con parts = false by unfold isAsmP; rw [decide_eq_false (show ¬ parts.length ≤ 4 by omega), Bool.and_false]; rfl)
  clear c1 c2
  go_enter Try.func56, Try.ntmps56
  go_wp2_with (first
   | ((with_reducible refine gate_dst (N := 1) rfl ?_); refine be_ (N := 1) (cs := #[.slice Ap parts.length cp]) (t := 32) ?_; intro ga hgb_ wb_ hcb_ hbb_; replace HS := A0_ (Sp.boxed HS.out hgb_ hcb_ hbb_); clear hgb_ hcb_ hbb_; have ha0 := (cl_ HS 0 0 rfl).trans rfl))
  go_ret
  exact ⟨by rw [HN.out]; rfl, Sp.tail HS.out⟩
 have d0 : decide ((parts.length : Int) < 2) = false := decide_eq_false (by omega)
 have d1 : ((parts.length : Int) < 2) = False := eq_false (by omega)
 have d2 : (parts.length < 2) = False := eq_false c1
 have d3 : decide ((4 : Int) < (parts.length : Int)) = false := decide_eq_false (by omega)
 have d4 : ((4 : Int) < (parts.length : Int)) = False := eq_false (by omega)
 have d5 : (4 < parts.length) = False := eq_false c2
 have HN := A0_ (show isAsmP sol con parts = (parts.all (partOk sol con) && clearP parts (zerosC parts.length)) by unfold isAsmP; rw [decide_eq_true (show 2 ≤ parts.length by omega), decide_eq_true (show parts.length ≤ 4 by omega)]; rfl)
 have HL := A0_ (show 2 ≤ parts.length ∧ parts.length ≤ 4 by omega)
 have HF := A0_ (show FrOk w0 Ap parts from ⟨HP.out, by omega, HSZ.out⟩)
 rw [HN.out]
 clear c1 c2 HN
 go_enter Try.func56, Try.ntmps56
 go_wp2_with (first
  | ((with_reducible refine gate_dst (N := 1) rfl ?_); refine be_ (N := 1) (cs := #[.slice Ap parts.length cp]) (t := 32) ?_; intro ga hgb_ wb_ hcb_ hbb_; replace HS := A0_ (Sp.boxed HS.out hgb_ hcb_ hbb_); clear hgb_ hcb_ hbb_; have ha0 := (cl_ HS 0 0 rfl).trans rfl))
 clear ha0
 replace HS := A0_ (show Sp w0 ([Res.blk ga #[.slice Ap parts.length cp] 32] ++ rest) wb_ from HS.out)
 go_loopg [18] (parts.length + 1) (fun kq v18 w' => ∃ (i : Nat), v18 = .int .i64 (i : Int) ∧ Aside0 (i ≤ parts.length ∧ kq + i = parts.length + 1 ∧ (parts.take i).all (partOk sol con) = true) ∧ Aside0 (Sp w0 ([Res.blk ga #[.slice Ap parts.length cp] 32] ++ rest) w'))
 case atStart => exact ⟨0, rfl, ⟨by omega, by omega, by simp⟩, HS⟩
 case round =>
  clear HS
  obtain ⟨i, rfl, HX, HS⟩ := hrel
  obtain ⟨k1, rfl⟩ : ∃ k1, gk = k1 + 1 := ⟨gk - 1, by have := HX.out; omega⟩
  by_cases ci : i < parts.length
  ·have ci0 : decide (i < parts.length) = true := decide_eq_true ci
   have q0 : (0 ≤ (i : Int)) = True := eq_true (by omega)
   have q1 : ((i : Int) < (parts.length : Int)) = True := eq_true (by omega)
   obtain ⟨adp, Ai, ci_, e, hx0, hx1, hx2⟩ := at_L4 (Kd.C_below HP.out HS.out.below) (i : Int) (by omega) (by omega)
   subst e
   have hpi : rd_L4 parts (i : Int) = parts[i] := by unfold rd_L4; simp [ci]
   rw [hpi] at hx0 hx1 hx2
   rw [Int.toNat_natCast] at hx0
   have hin : parts[i] ∈ parts := List.getElem_mem ci
   obtain ⟨K1, hK1⟩ := HSOL.out _ hin
   have hK2 := HCON.out _ hin
   have HNX := A0_ (show (parts.take (i + 1)).all (partOk sol con) = partOk sol con parts[i] by rw [List.take_succ_eq_append_getElem ci, List.all_append, HX.out.2.2]; simp)
   have HNO := A0_ (fun (h : partOk sol con parts[i] = false) => show parts.all (partOk sol con) = false by
    rw [Bool.eq_false_iff]
    intro hc
    rw [List.all_eq_true] at hc
    rw [hc _ hin] at h
    cases h)
   have HW := A0_ (wrap_succ i (by have := HL.out; omega))
   generalize parts[i] = p at hx0 hx1 hx2 hK1 hK2 HNX HNO
   have HC := A0_ hx2
   have HCC := A0_ hx1
   clear hpi hin ci hx1 hx2
   cases c1 : sol p with
   | false =>
    rw [c1] at hK1
    have HK1 := A0_ hK1
    have HFA := A0_ (HNO.out (by unfold partOk; rw [c1]; first | done | rfl))
    clear hK1 hK2 HNX HNO c1
    go_wp2_with (first
     | (go_at_call 80; refine (impl_isSolid.calls K1 Ai ci_ p false _ HC.out HCC.out HK1.out).mono ?_; rintro e wc_ ⟨rfl, hb_⟩; replace HS := A0_ (Sp.far HS.out hb_); clear hb_ hx0))
    go_ret
    exact ⟨by rw [HFA.out]; rfl, Sp.tail HS.out⟩
   | true =>
    rw [c1] at hK1
    have HK1 := A0_ hK1
    obtain ⟨K2, hK2⟩ := hK2 c1
    cases c2 : con p with
    | false =>
     rw [c2] at hK2
     have HK2 := A0_ hK2
     have HFA := A0_ (HNO.out (by unfold partOk; rw [c1, c2]; first | done | rfl))
     clear hK1 hK2 HNX HNO c1 c2
     go_wp2_with (first
      | (go_at_call 80; refine (impl_isSolid.calls K1 Ai ci_ p true _ HC.out HCC.out HK1.out).mono ?_; rintro e wc_ ⟨rfl, hb_⟩; replace HS := A0_ (Sp.far HS.out hb_); replace HC := A0_ (Kd.C_below HC.out hb_); clear hb_ hx0)
      | (go_at_call 81; refine (impl_connectedCubes.calls K2 Ai ci_ p false _ HC.out HCC.out HK2.out).mono ?_; rintro e wc_ ⟨rfl, hb_⟩; replace HS := A0_ (Sp.far HS.out hb_); clear hb_))
     go_ret
     exact ⟨by rw [HFA.out]; rfl, Sp.tail HS.out⟩
    | true =>
     rw [c2] at hK2
     have HK2 := A0_ hK2
     cases c3 : p.any (fun c => !inCb c 0 7) with
     | true =>
      have HAN := A0_ c3
      have HFA := A0_ (HNO.out (by unfold partOk; rw [c1, c2, c3]; first | done | rfl))
      clear hK1 hK2 HNX HNO c1 c2 c3
      go_wp2_with (first
       | (go_at_call 80; refine (impl_isSolid.calls K1 Ai ci_ p true _ HC.out HCC.out HK1.out).mono ?_; rintro e wc_ ⟨rfl, hb_⟩; replace HS := A0_ (Sp.far HS.out hb_); replace HC := A0_ (Kd.C_below HC.out hb_); clear hb_ hx0)
       | (go_at_call 81; refine (impl_connectedCubes.calls K2 Ai ci_ p true _ HC.out HCC.out HK2.out).mono ?_; rintro e wc_ ⟨rfl, hb_⟩; replace HS := A0_ (Sp.far HS.out hb_); replace HC := A0_ (Kd.C_below HC.out hb_); clear hb_)
       | (go_at_call 82; refine (containsFunc_calls Ai ci_ p _ _ #[] _ (in7_pred _) HC.out).mono ?_; rw [HAN.out]; rintro e wc_ ⟨rfl, hb_⟩; replace HS := A0_ (Sp.far HS.out hb_); clear hb_))
      go_ret
      exact ⟨by rw [HFA.out]; rfl, Sp.tail HS.out⟩
     | false =>
      have HAN := A0_ c3
      have HN2 := A0_ (HNX.out.trans (by unfold partOk; rw [c1, c2, c3]; first | done | rfl))
      clear hK1 hK2 HNX HNO c1 c2 c3
      go_wp2_with (first
       | (go_at_call 80; refine (impl_isSolid.calls K1 Ai ci_ p true _ HC.out HCC.out HK1.out).mono ?_; rintro e wc_ ⟨rfl, hb_⟩; replace HS := A0_ (Sp.far HS.out hb_); replace HC := A0_ (Kd.C_below HC.out hb_); clear hb_ hx0)
       | (go_at_call 81; refine (impl_connectedCubes.calls K2 Ai ci_ p true _ HC.out HCC.out HK2.out).mono ?_; rintro e wc_ ⟨rfl, hb_⟩; replace HS := A0_ (Sp.far HS.out hb_); replace HC := A0_ (Kd.C_below HC.out hb_); clear hb_)
       | (go_at_call 82; refine (containsFunc_calls Ai ci_ p _ _ #[] _ (in7_pred _) HC.out).mono ?_; rw [HAN.out]; rintro e wc_ ⟨rfl, hb_⟩; replace HS := A0_ (Sp.far HS.out hb_); clear hb_))
      go_roundg k1
      case measure => omega
      case rel =>
       rw [HW.out]
       exact ⟨i + 1, rfl, ⟨by have := of_decide_eq_true ci0; omega, by have := HX.out; omega, HN2.out⟩, HS⟩
  ·have ci0 : decide (i < parts.length) = false := decide_eq_false ci
   have HALL := A0_ (show parts.all (partOk sol con) = true by
    have h := HX.out.2.2
    rw [List.take_of_length_le (by omega)] at h
    exact h)
   clear ci
   go_wp2
   replace HS := A0_ (Sp.drew HS.out)
   refine start_ (n := 8) (S := fun w' => w'.cell? ⟨ga, 0, none⟩ = some (.slice Ap parts.length cp)) (ds := []) #[false, false, false, false, false, false, false, false] (by kernel_rfl) rfl rfl ((cl_ HS 0 0 rfl).trans rfl) (fun hHeld => ?_)
   refine with_tabW isAsmF.tab9 isAsmF.bits9 (fun HT_ HW_ => ?_)
   generalize wr.drew = wD at HS hHeld ⊢
   refine tk_ 0 (some 35) ?_
   refine on_ 2 (some 37) ?_
   refine tk_ 3 (some 38) ?_
   refine on_ 4 (some 39) ?_
   refine o2_ 1 5 (some 36) (some 40) (fun K hK => ?_) (fun K hK => ?_)
   ·refine gs_ Try.func68 #[.agg #[.slice Ap parts.length cp]] ?_
    refine (newFrame_calls w0 Ap cp parts ([Res.blk ga #[.slice Ap parts.length cp] 32] ++ rest) _ HS.out).mono ?_
    rintro e wF ⟨gF, gM, rfl, hs_⟩
    refine ⟨_, rfl, ?_⟩
    replace HS := A0_ (hs_)
    clear hs_
    refine hK.out _ _ ((cl_ HS 2 0 rfl).trans rfl) (fun hHeld => ?_)
    clear hK K
    refine nm_ (some 36) ?_
    refine o1_ 5 (some 40) (fun K hK => ?_)
    refine Kd.R_make_step kC _ 69 (by rfl) (N := 40) rfl 34 _ _ rfl ((parts.length : Nat) : Int) rfl rfl Try.underlying34 (.agg #[(.int .i64 0), (.int .i64 0), (.int .i64 0)]) 24 info69 rfl (by decide) (by decide) (⟨0, 0, 0⟩ : Cb) (ok := fun _ => True) (okp := fun _ => True) (k69_mkM _ _ _ (⟨0, 0, 0⟩ : Cb)) (fun _ hk => hk) trivial (by omega) (by have := HL.out; omega) (Below.refl _ _) (Nat.le_refl _) ?_
    intro vA11 wA11 ho hb hg_ hn_
    clear hg_ hn_
    rw [Int.toNat_natCast] at ho
    have HZR_ := A0_ (Sp.made' HS.out hb ho)
    clear HS ho hb
    have HS := HZR_
    clear HZR_
    obtain ⟨AZ, cZ, eA_⟩ := Sp.slice HS.out (i := 0) rfl
    subst eA_
    have hcz_ := (Sp.reads HS.out (i := 0) rfl).2.1
    refine hK.out _ _ ((cl_ HS 3 0 rfl).trans rfl) (fun hHeld => ?_)
    clear hK K
    refine nm_ (some 40) ?_
    refine o1_ 6 (some 41) (fun K hK => ?_)
    replace HS := A0_ (Sp.arr (pre := [Res.row kC 69 w0.heap.size (.slice AZ (zerosC parts.length).length cZ) (zerosC parts.length), frBlk gF gM Ap cp parts, frMemo gM parts, Res.blk ga #[.slice Ap parts.length cp] 32]) (pre' := [frBlk gF gM Ap cp parts, frMemo gM parts, Res.row kC 69 w0.heap.size (.slice AZ (zerosC parts.length).length cZ) (zerosC parts.length), Res.blk ga #[.slice Ap parts.length cp] 32]) (rest := rest) [1, 2, 0, 3] HS.out rfl rfl)
    have hzl_ : (zerosC parts.length).length = parts.length := List.length_replicate
    have hcl_ := clear_calls w0 Ap cp gF gM parts HF.out (Res.row kC 69 w0.heap.size (.slice AZ (zerosC parts.length).length cZ) (zerosC parts.length)) AZ cZ (zerosC parts.length) Rds.row hcz_ (by rw [hzl_]; exact Nat.le_refl _) ([Res.blk ga #[.slice Ap parts.length cp] 32] ++ rest) _ HS.out
    refine gs_ Try.func85 #[.pointer (some ⟨gF, 0, none⟩), .slice AZ (zerosC parts.length).length cZ] ?_
    refine hcl_.mono ?_
    rintro e wC ⟨rfl, hs_⟩
    refine ⟨_, rfl, ?_⟩
    replace HS := A0_ (hs_)
    clear hs_ hcl_
    refine hK.out _ _ ((cl_ HS 3 0 rfl).trans rfl) (fun hHeld => ?_)
    clear hK K
    refine nm_ (some 41) ?_
    refine on_ 7 (some 2) ?_
    refine dn_ ?_
    try go_wp2
    go_ret
    exact ⟨by rw [HALL.out]; rfl, Sp.out (Sp.out (Sp.out (Sp.out HS.out 3) 2) 1) 0⟩
   ·refine Kd.R_make_step kC _ 69 (by rfl) (N := 40) rfl 34 _ _ rfl ((parts.length : Nat) : Int) rfl rfl Try.underlying34 (.agg #[(.int .i64 0), (.int .i64 0), (.int .i64 0)]) 24 info69 rfl (by decide) (by decide) (⟨0, 0, 0⟩ : Cb) (ok := fun _ => True) (okp := fun _ => True) (k69_mkM _ _ _ (⟨0, 0, 0⟩ : Cb)) (fun _ hk => hk) trivial (by omega) (by have := HL.out; omega) (Below.refl _ _) (Nat.le_refl _) ?_
    intro vA11 wA11 ho hb hg_ hn_
    clear hg_ hn_
    rw [Int.toNat_natCast] at ho
    have HZR_ := A0_ (Sp.made' HS.out hb ho)
    clear HS ho hb
    have HS := HZR_
    clear HZR_
    obtain ⟨AZ, cZ, eA_⟩ := Sp.slice HS.out (i := 0) rfl
    subst eA_
    have hcz_ := (Sp.reads HS.out (i := 0) rfl).2.1
    refine hK.out _ _ ((cl_ HS 1 0 rfl).trans rfl) (fun hHeld => ?_)
    clear hK K
    refine nm_ (some 40) ?_
    refine o1_ 1 (some 36) (fun K hK => ?_)
    refine gs_ Try.func68 #[.agg #[.slice Ap parts.length cp]] ?_
    refine (newFrame_calls w0 Ap cp parts ([Res.row kC 69 w0.heap.size (.slice AZ (zerosC parts.length).length cZ) (zerosC parts.length), Res.blk ga #[.slice Ap parts.length cp] 32] ++ rest) _ HS.out).mono ?_
    rintro e wF ⟨gF, gM, rfl, hs_⟩
    refine ⟨_, rfl, ?_⟩
    replace HS := A0_ (hs_)
    clear hs_
    refine hK.out _ _ ((cl_ HS 3 0 rfl).trans rfl) (fun hHeld => ?_)
    clear hK K
    refine nm_ (some 36) ?_
    refine o1_ 6 (some 41) (fun K hK => ?_)
    have hzl_ : (zerosC parts.length).length = parts.length := List.length_replicate
    have hcl_ := clear_calls w0 Ap cp gF gM parts HF.out (Res.row kC 69 w0.heap.size (.slice AZ (zerosC parts.length).length cZ) (zerosC parts.length)) AZ cZ (zerosC parts.length) Rds.row hcz_ (by rw [hzl_]; exact Nat.le_refl _) ([Res.blk ga #[.slice Ap parts.length cp] 32] ++ rest) _ HS.out
    refine gs_ Try.func85 #[.pointer (some ⟨gF, 0, none⟩), .slice AZ (zerosC parts.length).length cZ] ?_
    refine hcl_.mono ?_
    rintro e wC ⟨rfl, hs_⟩
    refine ⟨_, rfl, ?_⟩
    replace HS := A0_ (hs_)
    clear hs_ hcl_
    refine hK.out _ _ ((cl_ HS 3 0 rfl).trans rfl) (fun hHeld => ?_)
    clear hK K
    refine nm_ (some 41) ?_
    refine on_ 7 (some 2) ?_
    refine dn_ ?_
    try go_wp2
    go_ret
    exact ⟨by rw [HALL.out]; rfl, Sp.out (Sp.out (Sp.out (Sp.out HS.out 3) 2) 1) 0⟩
theorem visit_le {o : List Cb} {k : Int} {S S' : List Nd} {m : Int} (h : visitP o k S m = some S') : S.length ≤ S'.length := by
 unfold visitP at h
 split at h
 ·injection h with h; subst h; exact Nat.le_refl _
 ·split at h
  ·injection h with h; subst h; exact Nat.le_refl _
  ·split at h
   ·cases h
   ·injection h with h; subst h; rw [List.length_append]; omega
theorem spread_le {o : List Cb} {k : Int} : ∀ (ms : List Int) {S S' : List Nd}, ms.foldlM (visitP o k) S = some S' → S.length ≤ S'.length
 | [], S, S', h => by
  have : S = S' := Option.some.inj h
  subst this
  exact Nat.le_refl _
 | m :: ms, S, S', h => by
  rw [List.foldlM_cons] at h
  obtain ⟨T, h1, h2⟩ := Option.bind_eq_some_iff.1 h
  exact Nat.le_trans (visit_le h1) (spread_le ms h2)
section
attribute [local go_sem] max2_int min2_int max_two min_two max_three min_three max_four min_four
def spec_l09Less.f (a0_0 : Int) (a0_1 : Int) (a0_2 : Int) (a1_0 : Int) (a1_1 : Int) (a1_2 : Int) : Option (Bool) := if a0_2 < a1_2 then (some true) else (if a0_2 = a1_2 then (if a0_1 < a1_1 then (some true) else (if a0_1 = a1_1 then (some (decide (a0_0 < a1_0))) else (some false))) else (some false))
set_option maxHeartbeats 8000000 in
set_option maxRecDepth 100000 in
theorem spec_l09Less.calls (a0_0 : Int) (a0_1 : Int) (a0_2 : Int) (a1_0 : Int) (a1_1 : Int) (a1_2 : Int) (r : Bool) (w : World) (h : spec_l09Less.f a0_0 a0_1 a0_2 a1_0 a1_1 a1_2 = some r) :
    Calls Try.prog 100 #[.agg #[.int .i64 a0_0, .int .i64 a0_1, .int .i64 a0_2], .agg #[.int .i64 a1_0, .int .i64 a1_1, .int .i64 a1_2]] w fun e w' => e = .returned (.bool r) ∧ Below w.heap.size w w' := by
 (have hu69 := Try.underlying69); (have HB := A0_ (Below.refl w.heap.size w)); (have H : (if a0_2 < a1_2 then (some true) else (if a0_2 = a1_2 then (if a0_1 < a1_1 then (some true) else (if a0_1 = a1_1 then (some (decide (a0_0 < a1_0))) else (some false))) else (some false))) = some r := h); clear h; (by_cases c3 : a0_2 < a1_2)
 ·(rw [if_pos c3] at H); (have c3b0 : decide (a0_2 < a1_2) = true := decide_eq_true c3); clear c3; (obtain rfl := Option.some.inj H); (go_enter Try.func100, Try.ntmps100); (go_wp2_with (first | ((with_reducible refine gate_dst (N := 2) rfl ?_); refine be_ (N := 2) (cs := #[.int .i64 a0_0, .int .i64 a0_1, .int .i64 a0_2]) (t := 69) ?_; intro gb111 hg w4 hbox hb; have n0_ := A0_ (below_step bw_ hb); have n1_ := A0_ (hbox); have n2_ := A0_ ((by rw [hg]; exact (below_size bw_) : w.heap.size ≤ gb111)); have n3_ := A0_ ((by rw [hg]; exact (below_size bw_) : w.heap.size ≤ gb111)); clear HB; have HB := n0_; have BK111 := n1_; have GW111 := n2_; have GE111 := n3_; clear n0_ n1_ n2_ n3_; clear hb hbox hg) | ((with_reducible refine gate_dst (N := 3) rfl ?_); refine be_ (N := 3) (cs := #[.int .i64 a1_0, .int .i64 a1_1, .int .i64 a1_2]) (t := 69) ?_; intro gb112 hg w5 hbox hb; have n0_ := A0_ (blk_below (g := gb111) (o := .cells #[.int .i64 a0_0, .int .i64 a0_1, .int .i64 a0_2] 69 (0, 0)) (bk_ BK111) hb); have n1_ := A0_ (below_step bx_ hb); have n2_ := A0_ (hbox); have n3_ := A0_ ((by rw [hg]; exact (below_size bx_) : w.heap.size ≤ gb112)); have n4_ := A0_ ((by rw [hg]; exact (below_size bx_) : w.heap.size ≤ gb112)); have n5_ := A0_ ((by rw [hg]; exact Nat.ne_of_lt (blk_lt (g := gb111) (o := .cells #[.int .i64 a0_0, .int .i64 a0_1, .int .i64 a0_2] 69 (0, 0)) (bk_ BK111)) : gb111 ≠ gb112)); have n6_ := A0_ ((by rw [hg]; exact Nat.ne_of_gt (blk_lt (g := gb111) (o := .cells #[.int .i64 a0_0, .int .i64 a0_1, .int .i64 a0_2] 69 (0, 0)) (bk_ BK111)) : gb112 ≠ gb111)); clear BK111; clear HB; have BK111 := n0_; have HB := n1_; have BK112 := n2_; have GW112 := n3_; have GE112 := n4_; have NB111_112 := n5_; have NB112_111 := n6_; clear n0_ n1_ n2_ n3_ n4_ n5_ n6_; clear hb hbox hg; have hnb6 := NB111_112.out; have hnc6 := NB112_111.out; have hcz7_0 : w5.cell? ⟨gb111, 0, none⟩ = some (.int .i64 a0_0) := (blk_cell BK111.out 0).trans rfl; have hcz7_1 : w5.cell? ⟨gb111, 1, none⟩ = some (.int .i64 a0_1) := (blk_cell BK111.out 1).trans rfl; have hcz7_2 : w5.cell? ⟨gb111, 2, none⟩ = some (.int .i64 a0_2) := (blk_cell BK111.out 2).trans rfl; have hfz7_0 := blk_frozen BK111.out 0; have hfz7_1 := blk_frozen BK111.out 1; have hfz7_2 := blk_frozen BK111.out 2; have hcz8_0 : w5.cell? ⟨gb112, 0, none⟩ = some (.int .i64 a1_0) := (blk_cell BK112.out 0).trans rfl; have hcz8_1 : w5.cell? ⟨gb112, 1, none⟩ = some (.int .i64 a1_1) := (blk_cell BK112.out 1).trans rfl; have hcz8_2 : w5.cell? ⟨gb112, 2, none⟩ = some (.int .i64 a1_2) := (blk_cell BK112.out 2).trans rfl; have hfz8_0 := blk_frozen BK112.out 0; have hfz8_1 := blk_frozen BK112.out 1; have hfz8_2 := blk_frozen BK112.out 2))); go_ret; (exact ⟨er_, bx_⟩)
 ·(rw [if_neg c3] at H); (have c3b0 : decide (a0_2 < a1_2) = false := decide_eq_false c3); clear c3; (by_cases c9 : a0_2 = a1_2)
  ·(rw [if_pos c9] at H); (have c9b0 : (a0_2 == a1_2) = true := beq_iff_eq.mpr c9); (have c9b1 : (a0_2 != a1_2) = false := bne_eq_false_iff_eq.mpr c9); clear c9; (by_cases c10 : a0_1 < a1_1)
   ·(rw [if_pos c10] at H); (have c10b0 : decide (a0_1 < a1_1) = true := decide_eq_true c10); clear c10; (obtain rfl := Option.some.inj H); (go_enter Try.func100, Try.ntmps100); (go_wp2_with (first | ((with_reducible refine gate_dst (N := 2) rfl ?_); refine be_ (N := 2) (cs := #[.int .i64 a0_0, .int .i64 a0_1, .int .i64 a0_2]) (t := 69) ?_; intro gb111 hg w11 hbox hb; have n0_ := A0_ (below_step bw_ hb); have n1_ := A0_ (hbox); have n2_ := A0_ ((by rw [hg]; exact (below_size bw_) : w.heap.size ≤ gb111)); have n3_ := A0_ ((by rw [hg]; exact (below_size bw_) : w.heap.size ≤ gb111)); clear HB; have HB := n0_; have BK111 := n1_; have GW111 := n2_; have GE111 := n3_; clear n0_ n1_ n2_ n3_; clear hb hbox hg) | ((with_reducible refine gate_dst (N := 3) rfl ?_); refine be_ (N := 3) (cs := #[.int .i64 a1_0, .int .i64 a1_1, .int .i64 a1_2]) (t := 69) ?_; intro gb112 hg w12 hbox hb; have n0_ := A0_ (blk_below (g := gb111) (o := .cells #[.int .i64 a0_0, .int .i64 a0_1, .int .i64 a0_2] 69 (0, 0)) (bk_ BK111) hb); have n1_ := A0_ (below_step bx_ hb); have n2_ := A0_ (hbox); have n3_ := A0_ ((by rw [hg]; exact (below_size bx_) : w.heap.size ≤ gb112)); have n4_ := A0_ ((by rw [hg]; exact (below_size bx_) : w.heap.size ≤ gb112)); have n5_ := A0_ ((by rw [hg]; exact Nat.ne_of_lt (blk_lt (g := gb111) (o := .cells #[.int .i64 a0_0, .int .i64 a0_1, .int .i64 a0_2] 69 (0, 0)) (bk_ BK111)) : gb111 ≠ gb112)); have n6_ := A0_ ((by rw [hg]; exact Nat.ne_of_gt (blk_lt (g := gb111) (o := .cells #[.int .i64 a0_0, .int .i64 a0_1, .int .i64 a0_2] 69 (0, 0)) (bk_ BK111)) : gb112 ≠ gb111)); clear BK111; clear HB; have BK111 := n0_; have HB := n1_; have BK112 := n2_; have GW112 := n3_; have GE112 := n4_; have NB111_112 := n5_; have NB112_111 := n6_; clear n0_ n1_ n2_ n3_ n4_ n5_ n6_; clear hb hbox hg; have hnb13 := NB111_112.out; have hnc13 := NB112_111.out; have hcz14_0 : w12.cell? ⟨gb111, 0, none⟩ = some (.int .i64 a0_0) := (blk_cell BK111.out 0).trans rfl; have hcz14_1 : w12.cell? ⟨gb111, 1, none⟩ = some (.int .i64 a0_1) := (blk_cell BK111.out 1).trans rfl; have hcz14_2 : w12.cell? ⟨gb111, 2, none⟩ = some (.int .i64 a0_2) := (blk_cell BK111.out 2).trans rfl; have hfz14_0 := blk_frozen BK111.out 0; have hfz14_1 := blk_frozen BK111.out 1; have hfz14_2 := blk_frozen BK111.out 2; have hcz15_0 : w12.cell? ⟨gb112, 0, none⟩ = some (.int .i64 a1_0) := (blk_cell BK112.out 0).trans rfl; have hcz15_1 : w12.cell? ⟨gb112, 1, none⟩ = some (.int .i64 a1_1) := (blk_cell BK112.out 1).trans rfl; have hcz15_2 : w12.cell? ⟨gb112, 2, none⟩ = some (.int .i64 a1_2) := (blk_cell BK112.out 2).trans rfl; have hfz15_0 := blk_frozen BK112.out 0; have hfz15_1 := blk_frozen BK112.out 1; have hfz15_2 := blk_frozen BK112.out 2))); go_ret; (exact ⟨er_, bx_⟩)
   ·(rw [if_neg c10] at H); (have c10b0 : decide (a0_1 < a1_1) = false := decide_eq_false c10); clear c10; (by_cases c16 : a0_1 = a1_1)
    ·(rw [if_pos c16] at H); (have c16b0 : (a0_1 == a1_1) = true := beq_iff_eq.mpr c16); (have c16b1 : (a0_1 != a1_1) = false := bne_eq_false_iff_eq.mpr c16); clear c16; (obtain rfl := Option.some.inj H); (go_enter Try.func100, Try.ntmps100); (go_wp2_with (first | ((with_reducible refine gate_dst (N := 2) rfl ?_); refine be_ (N := 2) (cs := #[.int .i64 a0_0, .int .i64 a0_1, .int .i64 a0_2]) (t := 69) ?_; intro gb111 hg w17 hbox hb; have n0_ := A0_ (below_step bw_ hb); have n1_ := A0_ (hbox); have n2_ := A0_ ((by rw [hg]; exact (below_size bw_) : w.heap.size ≤ gb111)); have n3_ := A0_ ((by rw [hg]; exact (below_size bw_) : w.heap.size ≤ gb111)); clear HB; have HB := n0_; have BK111 := n1_; have GW111 := n2_; have GE111 := n3_; clear n0_ n1_ n2_ n3_; clear hb hbox hg) | ((with_reducible refine gate_dst (N := 3) rfl ?_); refine be_ (N := 3) (cs := #[.int .i64 a1_0, .int .i64 a1_1, .int .i64 a1_2]) (t := 69) ?_; intro gb112 hg w18 hbox hb; have n0_ := A0_ (blk_below (g := gb111) (o := .cells #[.int .i64 a0_0, .int .i64 a0_1, .int .i64 a0_2] 69 (0, 0)) (bk_ BK111) hb); have n1_ := A0_ (below_step bx_ hb); have n2_ := A0_ (hbox); have n3_ := A0_ ((by rw [hg]; exact (below_size bx_) : w.heap.size ≤ gb112)); have n4_ := A0_ ((by rw [hg]; exact (below_size bx_) : w.heap.size ≤ gb112)); have n5_ := A0_ ((by rw [hg]; exact Nat.ne_of_lt (blk_lt (g := gb111) (o := .cells #[.int .i64 a0_0, .int .i64 a0_1, .int .i64 a0_2] 69 (0, 0)) (bk_ BK111)) : gb111 ≠ gb112)); have n6_ := A0_ ((by rw [hg]; exact Nat.ne_of_gt (blk_lt (g := gb111) (o := .cells #[.int .i64 a0_0, .int .i64 a0_1, .int .i64 a0_2] 69 (0, 0)) (bk_ BK111)) : gb112 ≠ gb111)); clear BK111; clear HB; have BK111 := n0_; have HB := n1_; have BK112 := n2_; have GW112 := n3_; have GE112 := n4_; have NB111_112 := n5_; have NB112_111 := n6_; clear n0_ n1_ n2_ n3_ n4_ n5_ n6_; clear hb hbox hg; have hnb19 := NB111_112.out; have hnc19 := NB112_111.out; have hcz20_0 : w18.cell? ⟨gb111, 0, none⟩ = some (.int .i64 a0_0) := (blk_cell BK111.out 0).trans rfl; have hcz20_1 : w18.cell? ⟨gb111, 1, none⟩ = some (.int .i64 a0_1) := (blk_cell BK111.out 1).trans rfl; have hcz20_2 : w18.cell? ⟨gb111, 2, none⟩ = some (.int .i64 a0_2) := (blk_cell BK111.out 2).trans rfl; have hfz20_0 := blk_frozen BK111.out 0; have hfz20_1 := blk_frozen BK111.out 1; have hfz20_2 := blk_frozen BK111.out 2; have hcz21_0 : w18.cell? ⟨gb112, 0, none⟩ = some (.int .i64 a1_0) := (blk_cell BK112.out 0).trans rfl; have hcz21_1 : w18.cell? ⟨gb112, 1, none⟩ = some (.int .i64 a1_1) := (blk_cell BK112.out 1).trans rfl; have hcz21_2 : w18.cell? ⟨gb112, 2, none⟩ = some (.int .i64 a1_2) := (blk_cell BK112.out 2).trans rfl; have hfz21_0 := blk_frozen BK112.out 0; have hfz21_1 := blk_frozen BK112.out 1; have hfz21_2 := blk_frozen BK112.out 2))); go_ret; (exact ⟨er_, bx_⟩)
    ·(rw [if_neg c16] at H); (have c16b0 : (a0_1 == a1_1) = false := beq_eq_false_iff_ne.mpr c16); (have c16b1 : (a0_1 != a1_1) = true := bne_iff_ne.mpr c16); (obtain rfl := Option.some.inj H); (go_enter Try.func100, Try.ntmps100); (go_wp2_with (first | ((with_reducible refine gate_dst (N := 2) rfl ?_); refine be_ (N := 2) (cs := #[.int .i64 a0_0, .int .i64 a0_1, .int .i64 a0_2]) (t := 69) ?_; intro gb111 hg w22 hbox hb; have n0_ := A0_ (below_step bw_ hb); have n1_ := A0_ (hbox); have n2_ := A0_ ((by rw [hg]; exact (below_size bw_) : w.heap.size ≤ gb111)); have n3_ := A0_ ((by rw [hg]; exact (below_size bw_) : w.heap.size ≤ gb111)); clear HB; have HB := n0_; have BK111 := n1_; have GW111 := n2_; have GE111 := n3_; clear n0_ n1_ n2_ n3_; clear hb hbox hg) | ((with_reducible refine gate_dst (N := 3) rfl ?_); refine be_ (N := 3) (cs := #[.int .i64 a1_0, .int .i64 a1_1, .int .i64 a1_2]) (t := 69) ?_; intro gb112 hg w23 hbox hb; have n0_ := A0_ (blk_below (g := gb111) (o := .cells #[.int .i64 a0_0, .int .i64 a0_1, .int .i64 a0_2] 69 (0, 0)) (bk_ BK111) hb); have n1_ := A0_ (below_step bx_ hb); have n2_ := A0_ (hbox); have n3_ := A0_ ((by rw [hg]; exact (below_size bx_) : w.heap.size ≤ gb112)); have n4_ := A0_ ((by rw [hg]; exact (below_size bx_) : w.heap.size ≤ gb112)); have n5_ := A0_ ((by rw [hg]; exact Nat.ne_of_lt (blk_lt (g := gb111) (o := .cells #[.int .i64 a0_0, .int .i64 a0_1, .int .i64 a0_2] 69 (0, 0)) (bk_ BK111)) : gb111 ≠ gb112)); have n6_ := A0_ ((by rw [hg]; exact Nat.ne_of_gt (blk_lt (g := gb111) (o := .cells #[.int .i64 a0_0, .int .i64 a0_1, .int .i64 a0_2] 69 (0, 0)) (bk_ BK111)) : gb112 ≠ gb111)); clear BK111; clear HB; have BK111 := n0_; have HB := n1_; have BK112 := n2_; have GW112 := n3_; have GE112 := n4_; have NB111_112 := n5_; have NB112_111 := n6_; clear n0_ n1_ n2_ n3_ n4_ n5_ n6_; clear hb hbox hg; have hnb24 := NB111_112.out; have hnc24 := NB112_111.out; have hcz25_0 : w23.cell? ⟨gb111, 0, none⟩ = some (.int .i64 a0_0) := (blk_cell BK111.out 0).trans rfl; have hcz25_1 : w23.cell? ⟨gb111, 1, none⟩ = some (.int .i64 a0_1) := (blk_cell BK111.out 1).trans rfl; have hcz25_2 : w23.cell? ⟨gb111, 2, none⟩ = some (.int .i64 a0_2) := (blk_cell BK111.out 2).trans rfl; have hfz25_0 := blk_frozen BK111.out 0; have hfz25_1 := blk_frozen BK111.out 1; have hfz25_2 := blk_frozen BK111.out 2; have hcz26_0 : w23.cell? ⟨gb112, 0, none⟩ = some (.int .i64 a1_0) := (blk_cell BK112.out 0).trans rfl; have hcz26_1 : w23.cell? ⟨gb112, 1, none⟩ = some (.int .i64 a1_1) := (blk_cell BK112.out 1).trans rfl; have hcz26_2 : w23.cell? ⟨gb112, 2, none⟩ = some (.int .i64 a1_2) := (blk_cell BK112.out 2).trans rfl; have hfz26_0 := blk_frozen BK112.out 0; have hfz26_1 := blk_frozen BK112.out 1; have hfz26_2 := blk_frozen BK112.out 2))); go_ret; (exact ⟨er_, bx_⟩)
  ·(rw [if_neg c9] at H); (have c9b0 : (a0_2 == a1_2) = false := beq_eq_false_iff_ne.mpr c9); (have c9b1 : (a0_2 != a1_2) = true := bne_iff_ne.mpr c9); (obtain rfl := Option.some.inj H); (go_enter Try.func100, Try.ntmps100); (go_wp2_with (first | ((with_reducible refine gate_dst (N := 2) rfl ?_); refine be_ (N := 2) (cs := #[.int .i64 a0_0, .int .i64 a0_1, .int .i64 a0_2]) (t := 69) ?_; intro gb111 hg w27 hbox hb; have n0_ := A0_ (below_step bw_ hb); have n1_ := A0_ (hbox); have n2_ := A0_ ((by rw [hg]; exact (below_size bw_) : w.heap.size ≤ gb111)); have n3_ := A0_ ((by rw [hg]; exact (below_size bw_) : w.heap.size ≤ gb111)); clear HB; have HB := n0_; have BK111 := n1_; have GW111 := n2_; have GE111 := n3_; clear n0_ n1_ n2_ n3_; clear hb hbox hg) | ((with_reducible refine gate_dst (N := 3) rfl ?_); refine be_ (N := 3) (cs := #[.int .i64 a1_0, .int .i64 a1_1, .int .i64 a1_2]) (t := 69) ?_; intro gb112 hg w28 hbox hb; have n0_ := A0_ (blk_below (g := gb111) (o := .cells #[.int .i64 a0_0, .int .i64 a0_1, .int .i64 a0_2] 69 (0, 0)) (bk_ BK111) hb); have n1_ := A0_ (below_step bx_ hb); have n2_ := A0_ (hbox); have n3_ := A0_ ((by rw [hg]; exact (below_size bx_) : w.heap.size ≤ gb112)); have n4_ := A0_ ((by rw [hg]; exact (below_size bx_) : w.heap.size ≤ gb112)); have n5_ := A0_ ((by rw [hg]; exact Nat.ne_of_lt (blk_lt (g := gb111) (o := .cells #[.int .i64 a0_0, .int .i64 a0_1, .int .i64 a0_2] 69 (0, 0)) (bk_ BK111)) : gb111 ≠ gb112)); have n6_ := A0_ ((by rw [hg]; exact Nat.ne_of_gt (blk_lt (g := gb111) (o := .cells #[.int .i64 a0_0, .int .i64 a0_1, .int .i64 a0_2] 69 (0, 0)) (bk_ BK111)) : gb112 ≠ gb111)); clear BK111; clear HB; have BK111 := n0_; have HB := n1_; have BK112 := n2_; have GW112 := n3_; have GE112 := n4_; have NB111_112 := n5_; have NB112_111 := n6_; clear n0_ n1_ n2_ n3_ n4_ n5_ n6_; clear hb hbox hg; have hnb29 := NB111_112.out; have hnc29 := NB112_111.out; have hcz30_0 : w28.cell? ⟨gb111, 0, none⟩ = some (.int .i64 a0_0) := (blk_cell BK111.out 0).trans rfl; have hcz30_1 : w28.cell? ⟨gb111, 1, none⟩ = some (.int .i64 a0_1) := (blk_cell BK111.out 1).trans rfl; have hcz30_2 : w28.cell? ⟨gb111, 2, none⟩ = some (.int .i64 a0_2) := (blk_cell BK111.out 2).trans rfl; have hfz30_0 := blk_frozen BK111.out 0; have hfz30_1 := blk_frozen BK111.out 1; have hfz30_2 := blk_frozen BK111.out 2; have hcz31_0 : w28.cell? ⟨gb112, 0, none⟩ = some (.int .i64 a1_0) := (blk_cell BK112.out 0).trans rfl; have hcz31_1 : w28.cell? ⟨gb112, 1, none⟩ = some (.int .i64 a1_1) := (blk_cell BK112.out 1).trans rfl; have hcz31_2 : w28.cell? ⟨gb112, 2, none⟩ = some (.int .i64 a1_2) := (blk_cell BK112.out 2).trans rfl; have hfz31_0 := blk_frozen BK112.out 0; have hfz31_1 := blk_frozen BK112.out 1; have hfz31_2 := blk_frozen BK112.out 2))); go_ret; (exact ⟨er_, bx_⟩)
end
section
attribute [local go_sem] max2_int min2_int max_two min_two max_three min_three max_four min_four
def spec_l09Compare.l0 : Nat → List (S69) → List (S69) → Int → Option (Int)
  | 0, _, _, _ => none
  | k + 1, x0, x1, x5 => if x5 < (x0.length : Int) then (if 0 ≤ x5 then (if x5 < (x1.length : Int) then ((spec_l09Less.f ((rd_T69 x0 x5).f0) ((rd_T69 x0 x5).f1) ((rd_T69 x0 x5).f2) ((rd_T69 x1 x5).f0) ((rd_T69 x1 x5).f1) ((rd_T69 x1 x5).f2)).bind fun t431 => (if t431 = true then (some (-1)) else ((spec_l09Less.f ((rd_T69 x1 x5).f0) ((rd_T69 x1 x5).f1) ((rd_T69 x1 x5).f2) ((rd_T69 x0 x5).f0) ((rd_T69 x0 x5).f1) ((rd_T69 x0 x5).f2)).bind fun t434 => (if t434 = true then (some 1) else (spec_l09Compare.l0 k x0 x1 (wrap64 (x5 + 1))))))) else (none)) else (none)) else (some 0)
def spec_l09Compare.f (k : Nat) (l0 : List (S69)) (l1 : List (S69)) : Option (Int) := if (l0.length : Int) = (l1.length : Int) then (spec_l09Compare.l0 k l0 l1 0) else (if (l0.length : Int) < (l1.length : Int) then (some (-1)) else (some 1))
def spec_l09Compare.T8 : Bool × List (List Nat × List Nat) := (true, [([], []), ([], []), ([0, 1], [0, 1]), ([2], [2]), ([], []), ([], []), ([4, 5], [4, 5]), ([6], [6]), ([3, 7], [3, 7])])
def spec_l09Compare.B8 : List Nat := [0, 0, 3, 7, 0, 0, 48, 112, 255]
theorem spec_l09Compare.tab8 : rtab .any (opsOf Try.f124 8) = spec_l09Compare.T8 := by kernel_rfl
theorem spec_l09Compare.bits8 : waitsOk spec_l09Compare.T8.2 spec_l09Compare.B8 = true := by kernel_rfl
def spec_l09Compare.T10 : Bool × List (List Nat × List Nat) := (true, [([], []), ([], []), ([0, 1], [0, 1]), ([2], [2]), ([], []), ([], []), ([4, 5], [4, 5]), ([6], [6]), ([3, 7], [3, 7])])
def spec_l09Compare.B10 : List Nat := [0, 0, 3, 7, 0, 0, 48, 112, 255]
theorem spec_l09Compare.tab10 : rtab .any (opsOf Try.f124 10) = spec_l09Compare.T10 := by kernel_rfl
theorem spec_l09Compare.bits10 : waitsOk spec_l09Compare.T10.2 spec_l09Compare.B10 = true := by kernel_rfl
set_option maxHeartbeats 8000000 in
set_option maxRecDepth 100000 in
theorem spec_l09Compare.calls (k : Nat) (A0 : Option Addr) (c0 : Nat) (l0 : List (S69)) (A1 : Option Addr) (c1 : Nat) (l1 : List (S69)) (r : Int) (w : World) (hr0 : Kd.C k69 w A0 l0.length l0) (hc0 : l0.length ≤ c0) (hr1 : Kd.C k69 w A1 l1.length l1) (hc1 : l1.length ≤ c1) (h : spec_l09Compare.f k l0 l1 = some r) :
    Calls Try.prog 124 #[.slice A0 l0.length c0, .slice A1 l1.length c1] w fun e w' => e = .returned (.int .i64 r) ∧ Below w.heap.size w w' := by
 (have hu69 := Try.underlying69); (have HR0 := A0_ hr0); (have HC0 := A0_ hc0); clear hr0 hc0; (have HR1 := A0_ hr1); (have HC1 := A0_ hc1); clear hr1 hc1; (have HB := A0_ (Below.refl w.heap.size w)); (have H : (if (l0.length : Int) = (l1.length : Int) then (spec_l09Compare.l0 k l0 l1 0) else (if (l0.length : Int) < (l1.length : Int) then (some (-1)) else (some 1))) = some r := h); clear h; (by_cases c3 : (l0.length : Int) = (l1.length : Int))
 ·(rw [if_pos c3] at H); (have c3b0 : ((l0.length : Int) == (l1.length : Int)) = true := beq_iff_eq.mpr c3); (have c3b1 : ((l0.length : Int) != (l1.length : Int)) = false := bne_eq_false_iff_eq.mpr c3); (have c3b2 : (l0.length == l1.length) = true := by first | simpa using c3 | (simp at c3 ⊢; omega)); clear c3; (have H' := A0_ H); clear H; (go_enter Try.func124, Try.ntmps124); go_wp2
  go_loopg [5] k (fun kq v5 w' => ∃ (x5_1 : Int), v5 = .int .i64 x5_1 ∧ Aside0 (spec_l09Compare.l0 kq l0 l1 x5_1 = some r) ∧ Aside0 (kq ≤ k) ∧ Aside0 (Below w.heap.size w w'))
  case atStart => exact ⟨(0), (by first | rfl | (simp; done) | (simp [*]; done)), H', ⟨Nat.le_refl _⟩, ⟨by repeat (first | (with_reducible first | exact HB.out | apply ba_ | apply bn_ | apply bd_) | exact HB.out)⟩⟩
  case round =>
   clear H'; (try clear c1); (try clear p2); (try clear c3); (try clear c3b0); (try clear c3b1); (try clear c3b2); (obtain ⟨x5_1, rfl, HA, HK1, HB⟩ := hrel)
   cases gk with
   | zero => exact absurd HA.out (by simp [spec_l09Compare.l0])
   | succ k1 =>
    (have H := HA.out); clear HA; (simp only [spec_l09Compare.l0] at H); (by_cases c4 : x5_1 < (l0.length : Int))
    ·(rw [if_pos c4] at H); (have c4b0 : decide (x5_1 < (l0.length : Int)) = true := decide_eq_true c4); clear c4; (by_cases c5 : 0 ≤ x5_1)
     ·(rw [if_pos c5] at H); (have c5b0 : decide (0 ≤ x5_1) = true := decide_eq_true c5); clear c5; (by_cases c6 : x5_1 < (l1.length : Int))
      ·(rw [if_pos c6] at H); (have c6b0 : decide (x5_1 < (l1.length : Int)) = true := decide_eq_true c6); clear c6; (replace H := Option.bind_eq_some_iff.mp H); (obtain ⟨t431, A70, H⟩ := H); (try dsimp only at H); (have A7 := A0_ A70); clear A70; (by_cases c8 : t431 = true)
       ·subst c8; (have H1 := H); (rw [if_pos rfl] at H1); clear H; (have H := H1); clear H1; (obtain rfl := Option.some.inj H); (try go_wp2); (replace HB := A0_ (below_drew1 HB.out)); (have p429 : 0 ≤ (x5_1 : Int) := of_decide_eq_true as_); (have q429 : x5_1 < (l0.length : Int) := of_decide_eq_true as_); (obtain ⟨ad429, e429, hx429_0, hx429_1, hx429_2⟩ := at_T69 HR0.out x5_1 p429 q429); (have hw429_2 := hx429_2); (have hw429_1 := hx429_1); (have hw429_0 := hx429_0); (cases e429); (replace hx429_0 := (HB.out.cell (World.block_lt_of_cell? w _ hx429_0)).trans hx429_0); (replace hx429_1 := (HB.out.cell (World.block_lt_of_cell? w _ hx429_1)).trans hx429_1); (replace hx429_2 := (HB.out.cell (World.block_lt_of_cell? w _ hx429_2)).trans hx429_2); (replace p429 := eq_true p429); (replace q429 := eq_true q429); (have p430 : 0 ≤ (x5_1 : Int) := of_decide_eq_true as_); (have q430 : x5_1 < (l1.length : Int) := of_decide_eq_true as_); (obtain ⟨ad430, e430, hx430_0, hx430_1, hx430_2⟩ := at_T69 HR1.out x5_1 p430 q430); (have hw430_2 := hx430_2); (have hw430_1 := hx430_1); (have hw430_0 := hx430_0); (cases e430); (replace hx430_0 := (HB.out.cell (World.block_lt_of_cell? w _ hx430_0)).trans hx430_0); (replace hx430_1 := (HB.out.cell (World.block_lt_of_cell? w _ hx430_1)).trans hx430_1); (replace hx430_2 := (HB.out.cell (World.block_lt_of_cell? w _ hx430_2)).trans hx430_2); (replace p430 := eq_true p430); (replace q430 := eq_true q430)
        refine start_ (n := 9) (S := fun w' => w'.cell? (ad429.add ((x5_1).toNat * 3)) = some (.int .i64 ((rd_T69 l0 x5_1).f0)) ∧ w'.cell? ⟨(ad429.add ((x5_1).toNat * 3)).block, (ad429.add ((x5_1).toNat * 3)).off + 1, none⟩ = some (.int .i64 ((rd_T69 l0 x5_1).f1)) ∧ w'.cell? ⟨(ad429.add ((x5_1).toNat * 3)).block, (ad429.add ((x5_1).toNat * 3)).off + 2, none⟩ = some (.int .i64 ((rd_T69 l0 x5_1).f2)) ∧ w'.cell? (ad430.add ((x5_1).toNat * 3)) = some (.int .i64 ((rd_T69 l1 x5_1).f0)) ∧ w'.cell? ⟨(ad430.add ((x5_1).toNat * 3)).block, (ad430.add ((x5_1).toNat * 3)).off + 1, none⟩ = some (.int .i64 ((rd_T69 l1 x5_1).f1)) ∧ w'.cell? ⟨(ad430.add ((x5_1).toNat * 3)).block, (ad430.add ((x5_1).toNat * 3)).off + 2, none⟩ = some (.int .i64 ((rd_T69 l1 x5_1).f2))) (ds := []) #[ff,ff,ff,ff,ff,ff,ff,ff,ff] (by kernel_rfl) rfl rfl ⟨((HB.out.cell (World.block_lt_of_cell? w _ hw429_0)).trans hw429_0), ((HB.out.cell (World.block_lt_of_cell? w _ hw429_1)).trans hw429_1), ((HB.out.cell (World.block_lt_of_cell? w _ hw429_2)).trans hw429_2), ((HB.out.cell (World.block_lt_of_cell? w _ hw430_0)).trans hw430_0), ((HB.out.cell (World.block_lt_of_cell? w _ hw430_1)).trans hw430_1), ((HB.out.cell (World.block_lt_of_cell? w _ hw430_2)).trans hw430_2)⟩ (fun hHeld => ?_); refine with_tabW spec_l09Compare.tab8 spec_l09Compare.bits8 (fun HT_ HW_ => ?_)
        (generalize wr.drew = w9 at HB hx429_0 hx429_1 hx429_2 hx430_0 hx430_1 hx430_2 hHeld ⊢); (refine on_ 0 (some 22) ?_); (refine on_ 1 (some 23) ?_); (refine on_ 2 (some 24) ?_); (refine on_ 4 (some 26) ?_); (refine on_ 5 (some 27) ?_); (refine on_ 6 (some 28) ?_); (refine tk_ 3 (some 25) ?_); (refine tk_ 7 (some 29) ?_)
        refine o1_ 8 (some 30) (fun K hK => ?_)
        (refine gs_ Try.func100 #[.agg #[.int .i64 ((rd_T69 l0 x5_1).f0), .int .i64 ((rd_T69 l0 x5_1).f1), .int .i64 ((rd_T69 l0 x5_1).f2)], .agg #[.int .i64 ((rd_T69 l1 x5_1).f0), .int .i64 ((rd_T69 l1 x5_1).f1), .int .i64 ((rd_T69 l1 x5_1).f2)]] ?_); (with_reducible refine (spec_l09Less.calls ((rd_T69 l0 x5_1).f0) ((rd_T69 l0 x5_1).f1) ((rd_T69 l0 x5_1).f2) ((rd_T69 l1 x5_1).f0) ((rd_T69 l1 x5_1).f1) ((rd_T69 l1 x5_1).f2) true _ A7.out).mono ?_); (rintro e w10 ⟨rfl, hb⟩); (refine ⟨_, rfl, ?_⟩); (replace HB := A0_ (below_step bw_ hb)); ((try clear hb)); ((try clear hb2)); ((try clear hk)); ((try clear hi))
        refine hK.out _ _ ⟨((HB.out.cell (World.block_lt_of_cell? w _ hw429_0)).trans hw429_0), ((HB.out.cell (World.block_lt_of_cell? w _ hw429_1)).trans hw429_1), ((HB.out.cell (World.block_lt_of_cell? w _ hw429_2)).trans hw429_2), ((HB.out.cell (World.block_lt_of_cell? w _ hw430_0)).trans hw430_0), ((HB.out.cell (World.block_lt_of_cell? w _ hw430_1)).trans hw430_1), ((HB.out.cell (World.block_lt_of_cell? w _ hw430_2)).trans hw430_2)⟩ (fun hHeld => ?_)
        clear hK K; (refine nm_ (some 30) ?_); (refine dn_ ?_); (try go_wp2); go_ret; (exact ⟨er_, bx_⟩)
       ·(replace c8 := Bool.eq_false_iff.mpr c8); subst c8
        have H1 : ((spec_l09Less.f ((rd_T69 l1 x5_1).f0) ((rd_T69 l1 x5_1).f1) ((rd_T69 l1 x5_1).f2) ((rd_T69 l0 x5_1).f0) ((rd_T69 l0 x5_1).f1) ((rd_T69 l0 x5_1).f2)).bind fun t434 => (if t434 = true then (some 1) else (spec_l09Compare.l0 k1 l0 l1 (wrap64 (x5_1 + 1))))) = some r := by rw [if_neg (show ¬ (false = true) by decide)] at H; exact H
        clear H; (have H := H1); clear H1; (replace H := Option.bind_eq_some_iff.mp H); (obtain ⟨t434, A110, H⟩ := H); (try dsimp only at H); (have A11 := A0_ A110); clear A110; (by_cases c12 : t434 = true)
        ·subst c12; (have H1 := H); (rw [if_pos rfl] at H1); clear H; (have H := H1); clear H1; (obtain rfl := Option.some.inj H); (try go_wp2); (replace HB := A0_ (below_drew1 HB.out)); (have p429 : 0 ≤ (x5_1 : Int) := of_decide_eq_true as_); (have q429 : x5_1 < (l0.length : Int) := of_decide_eq_true as_); (obtain ⟨ad429, e429, hx429_0, hx429_1, hx429_2⟩ := at_T69 HR0.out x5_1 p429 q429); (have hw429_2 := hx429_2); (have hw429_1 := hx429_1); (have hw429_0 := hx429_0); (cases e429); (replace hx429_0 := (HB.out.cell (World.block_lt_of_cell? w _ hx429_0)).trans hx429_0); (replace hx429_1 := (HB.out.cell (World.block_lt_of_cell? w _ hx429_1)).trans hx429_1); (replace hx429_2 := (HB.out.cell (World.block_lt_of_cell? w _ hx429_2)).trans hx429_2); (replace p429 := eq_true p429); (replace q429 := eq_true q429); (have p430 : 0 ≤ (x5_1 : Int) := of_decide_eq_true as_); (have q430 : x5_1 < (l1.length : Int) := of_decide_eq_true as_); (obtain ⟨ad430, e430, hx430_0, hx430_1, hx430_2⟩ := at_T69 HR1.out x5_1 p430 q430); (have hw430_2 := hx430_2); (have hw430_1 := hx430_1); (have hw430_0 := hx430_0); (cases e430); (replace hx430_0 := (HB.out.cell (World.block_lt_of_cell? w _ hx430_0)).trans hx430_0); (replace hx430_1 := (HB.out.cell (World.block_lt_of_cell? w _ hx430_1)).trans hx430_1); (replace hx430_2 := (HB.out.cell (World.block_lt_of_cell? w _ hx430_2)).trans hx430_2); (replace p430 := eq_true p430); (replace q430 := eq_true q430)
         refine start_ (n := 9) (S := fun w' => w'.cell? (ad429.add ((x5_1).toNat * 3)) = some (.int .i64 ((rd_T69 l0 x5_1).f0)) ∧ w'.cell? ⟨(ad429.add ((x5_1).toNat * 3)).block, (ad429.add ((x5_1).toNat * 3)).off + 1, none⟩ = some (.int .i64 ((rd_T69 l0 x5_1).f1)) ∧ w'.cell? ⟨(ad429.add ((x5_1).toNat * 3)).block, (ad429.add ((x5_1).toNat * 3)).off + 2, none⟩ = some (.int .i64 ((rd_T69 l0 x5_1).f2)) ∧ w'.cell? (ad430.add ((x5_1).toNat * 3)) = some (.int .i64 ((rd_T69 l1 x5_1).f0)) ∧ w'.cell? ⟨(ad430.add ((x5_1).toNat * 3)).block, (ad430.add ((x5_1).toNat * 3)).off + 1, none⟩ = some (.int .i64 ((rd_T69 l1 x5_1).f1)) ∧ w'.cell? ⟨(ad430.add ((x5_1).toNat * 3)).block, (ad430.add ((x5_1).toNat * 3)).off + 2, none⟩ = some (.int .i64 ((rd_T69 l1 x5_1).f2))) (ds := []) #[ff,ff,ff,ff,ff,ff,ff,ff,ff] (by kernel_rfl) rfl rfl ⟨((HB.out.cell (World.block_lt_of_cell? w _ hw429_0)).trans hw429_0), ((HB.out.cell (World.block_lt_of_cell? w _ hw429_1)).trans hw429_1), ((HB.out.cell (World.block_lt_of_cell? w _ hw429_2)).trans hw429_2), ((HB.out.cell (World.block_lt_of_cell? w _ hw430_0)).trans hw430_0), ((HB.out.cell (World.block_lt_of_cell? w _ hw430_1)).trans hw430_1), ((HB.out.cell (World.block_lt_of_cell? w _ hw430_2)).trans hw430_2)⟩ (fun hHeld => ?_); refine with_tabW spec_l09Compare.tab8 spec_l09Compare.bits8 (fun HT_ HW_ => ?_)
         (generalize wr.drew = w13 at HB hx429_0 hx429_1 hx429_2 hx430_0 hx430_1 hx430_2 hHeld ⊢); (refine on_ 0 (some 22) ?_); (refine on_ 1 (some 23) ?_); (refine on_ 2 (some 24) ?_); (refine on_ 4 (some 26) ?_); (refine on_ 5 (some 27) ?_); (refine on_ 6 (some 28) ?_); (refine tk_ 3 (some 25) ?_); (refine tk_ 7 (some 29) ?_)
         refine o1_ 8 (some 30) (fun K hK => ?_)
         (refine gs_ Try.func100 #[.agg #[.int .i64 ((rd_T69 l0 x5_1).f0), .int .i64 ((rd_T69 l0 x5_1).f1), .int .i64 ((rd_T69 l0 x5_1).f2)], .agg #[.int .i64 ((rd_T69 l1 x5_1).f0), .int .i64 ((rd_T69 l1 x5_1).f1), .int .i64 ((rd_T69 l1 x5_1).f2)]] ?_); (with_reducible refine (spec_l09Less.calls ((rd_T69 l0 x5_1).f0) ((rd_T69 l0 x5_1).f1) ((rd_T69 l0 x5_1).f2) ((rd_T69 l1 x5_1).f0) ((rd_T69 l1 x5_1).f1) ((rd_T69 l1 x5_1).f2) false _ A7.out).mono ?_); (rintro e w14 ⟨rfl, hb⟩); (refine ⟨_, rfl, ?_⟩); (replace HB := A0_ (below_step bw_ hb)); ((try clear hb)); ((try clear hb2)); ((try clear hk)); ((try clear hi))
         refine hK.out _ _ ⟨((HB.out.cell (World.block_lt_of_cell? w _ hw429_0)).trans hw429_0), ((HB.out.cell (World.block_lt_of_cell? w _ hw429_1)).trans hw429_1), ((HB.out.cell (World.block_lt_of_cell? w _ hw429_2)).trans hw429_2), ((HB.out.cell (World.block_lt_of_cell? w _ hw430_0)).trans hw430_0), ((HB.out.cell (World.block_lt_of_cell? w _ hw430_1)).trans hw430_1), ((HB.out.cell (World.block_lt_of_cell? w _ hw430_2)).trans hw430_2)⟩ (fun hHeld => ?_)
         clear hK K; (refine nm_ (some 30) ?_); (refine dn_ ?_); (try go_wp2); (replace HB := A0_ (below_drew1 HB.out)); (have p432 : 0 ≤ (x5_1 : Int) := of_decide_eq_true as_); (have q432 : x5_1 < (l1.length : Int) := of_decide_eq_true as_); (obtain ⟨ad432, e432, hx432_0, hx432_1, hx432_2⟩ := at_T69 HR1.out x5_1 p432 q432); (have hw432_2 := hx432_2); (have hw432_1 := hx432_1); (have hw432_0 := hx432_0); (obtain rfl : ad430 = ad432 := (by injection e432)); (replace hx432_0 := (HB.out.cell (World.block_lt_of_cell? w _ hx432_0)).trans hx432_0); (replace hx432_1 := (HB.out.cell (World.block_lt_of_cell? w _ hx432_1)).trans hx432_1); (replace hx432_2 := (HB.out.cell (World.block_lt_of_cell? w _ hx432_2)).trans hx432_2); (replace p432 := eq_true p432); (replace q432 := eq_true q432); (have p433 : 0 ≤ (x5_1 : Int) := of_decide_eq_true as_); (have q433 : x5_1 < (l0.length : Int) := of_decide_eq_true as_); (obtain ⟨ad433, e433, hx433_0, hx433_1, hx433_2⟩ := at_T69 HR0.out x5_1 p433 q433); (have hw433_2 := hx433_2); (have hw433_1 := hx433_1); (have hw433_0 := hx433_0); (obtain rfl : ad429 = ad433 := (by injection e433)); (replace hx433_0 := (HB.out.cell (World.block_lt_of_cell? w _ hx433_0)).trans hx433_0); (replace hx433_1 := (HB.out.cell (World.block_lt_of_cell? w _ hx433_1)).trans hx433_1); (replace hx433_2 := (HB.out.cell (World.block_lt_of_cell? w _ hx433_2)).trans hx433_2); (replace p433 := eq_true p433); (replace q433 := eq_true q433)
         refine start_ (n := 9) (S := fun w' => w'.cell? (ad430.add ((x5_1).toNat * 3)) = some (.int .i64 ((rd_T69 l1 x5_1).f0)) ∧ w'.cell? ⟨(ad430.add ((x5_1).toNat * 3)).block, (ad430.add ((x5_1).toNat * 3)).off + 1, none⟩ = some (.int .i64 ((rd_T69 l1 x5_1).f1)) ∧ w'.cell? ⟨(ad430.add ((x5_1).toNat * 3)).block, (ad430.add ((x5_1).toNat * 3)).off + 2, none⟩ = some (.int .i64 ((rd_T69 l1 x5_1).f2)) ∧ w'.cell? (ad429.add ((x5_1).toNat * 3)) = some (.int .i64 ((rd_T69 l0 x5_1).f0)) ∧ w'.cell? ⟨(ad429.add ((x5_1).toNat * 3)).block, (ad429.add ((x5_1).toNat * 3)).off + 1, none⟩ = some (.int .i64 ((rd_T69 l0 x5_1).f1)) ∧ w'.cell? ⟨(ad429.add ((x5_1).toNat * 3)).block, (ad429.add ((x5_1).toNat * 3)).off + 2, none⟩ = some (.int .i64 ((rd_T69 l0 x5_1).f2))) (ds := []) #[ff,ff,ff,ff,ff,ff,ff,ff,ff] (by kernel_rfl) rfl rfl ⟨((HB.out.cell (World.block_lt_of_cell? w _ hw432_0)).trans hw432_0), ((HB.out.cell (World.block_lt_of_cell? w _ hw432_1)).trans hw432_1), ((HB.out.cell (World.block_lt_of_cell? w _ hw432_2)).trans hw432_2), ((HB.out.cell (World.block_lt_of_cell? w _ hw433_0)).trans hw433_0), ((HB.out.cell (World.block_lt_of_cell? w _ hw433_1)).trans hw433_1), ((HB.out.cell (World.block_lt_of_cell? w _ hw433_2)).trans hw433_2)⟩ (fun hHeld => ?_); refine with_tabW spec_l09Compare.tab10 spec_l09Compare.bits10 (fun HT_ HW_ => ?_)
         (generalize w14.drew = w15 at HB hx432_0 hx432_1 hx432_2 hx433_0 hx433_1 hx433_2 hHeld ⊢); (refine on_ 0 (some 31) ?_); (refine on_ 1 (some 32) ?_); (refine on_ 2 (some 33) ?_); (refine on_ 4 (some 35) ?_); (refine on_ 5 (some 36) ?_); (refine on_ 6 (some 37) ?_); (refine tk_ 3 (some 34) ?_); (refine tk_ 7 (some 38) ?_)
         refine o1_ 8 (some 39) (fun K hK => ?_)
         (refine gs_ Try.func100 #[.agg #[.int .i64 ((rd_T69 l1 x5_1).f0), .int .i64 ((rd_T69 l1 x5_1).f1), .int .i64 ((rd_T69 l1 x5_1).f2)], .agg #[.int .i64 ((rd_T69 l0 x5_1).f0), .int .i64 ((rd_T69 l0 x5_1).f1), .int .i64 ((rd_T69 l0 x5_1).f2)]] ?_); (with_reducible refine (spec_l09Less.calls ((rd_T69 l1 x5_1).f0) ((rd_T69 l1 x5_1).f1) ((rd_T69 l1 x5_1).f2) ((rd_T69 l0 x5_1).f0) ((rd_T69 l0 x5_1).f1) ((rd_T69 l0 x5_1).f2) true _ A11.out).mono ?_); (rintro e w16 ⟨rfl, hb⟩); (refine ⟨_, rfl, ?_⟩); (replace HB := A0_ (below_step bw_ hb)); ((try clear hb)); ((try clear hb2)); ((try clear hk)); ((try clear hi))
         refine hK.out _ _ ⟨((HB.out.cell (World.block_lt_of_cell? w _ hw432_0)).trans hw432_0), ((HB.out.cell (World.block_lt_of_cell? w _ hw432_1)).trans hw432_1), ((HB.out.cell (World.block_lt_of_cell? w _ hw432_2)).trans hw432_2), ((HB.out.cell (World.block_lt_of_cell? w _ hw433_0)).trans hw433_0), ((HB.out.cell (World.block_lt_of_cell? w _ hw433_1)).trans hw433_1), ((HB.out.cell (World.block_lt_of_cell? w _ hw433_2)).trans hw433_2)⟩ (fun hHeld => ?_)
         clear hK K; (refine nm_ (some 39) ?_); (refine dn_ ?_); (try go_wp2); go_ret; (exact ⟨er_, bx_⟩)
        ·(replace c12 := Bool.eq_false_iff.mpr c12); subst c12; (have H1 : (spec_l09Compare.l0 k1 l0 l1 (wrap64 (x5_1 + 1))) = some r := by rw [if_neg (show ¬ (false = true) by decide)] at H; exact H); clear H; (have H := H1); clear H1; (have H' := A0_ H); clear H; (try go_wp2); (replace HB := A0_ (below_drew1 HB.out)); (have p429 : 0 ≤ (x5_1 : Int) := of_decide_eq_true as_); (have q429 : x5_1 < (l0.length : Int) := of_decide_eq_true as_); (obtain ⟨ad429, e429, hx429_0, hx429_1, hx429_2⟩ := at_T69 HR0.out x5_1 p429 q429); (have hw429_2 := hx429_2); (have hw429_1 := hx429_1); (have hw429_0 := hx429_0); (cases e429); (replace hx429_0 := (HB.out.cell (World.block_lt_of_cell? w _ hx429_0)).trans hx429_0); (replace hx429_1 := (HB.out.cell (World.block_lt_of_cell? w _ hx429_1)).trans hx429_1); (replace hx429_2 := (HB.out.cell (World.block_lt_of_cell? w _ hx429_2)).trans hx429_2); (replace p429 := eq_true p429); (replace q429 := eq_true q429); (have p430 : 0 ≤ (x5_1 : Int) := of_decide_eq_true as_); (have q430 : x5_1 < (l1.length : Int) := of_decide_eq_true as_); (obtain ⟨ad430, e430, hx430_0, hx430_1, hx430_2⟩ := at_T69 HR1.out x5_1 p430 q430); (have hw430_2 := hx430_2); (have hw430_1 := hx430_1); (have hw430_0 := hx430_0); (cases e430); (replace hx430_0 := (HB.out.cell (World.block_lt_of_cell? w _ hx430_0)).trans hx430_0); (replace hx430_1 := (HB.out.cell (World.block_lt_of_cell? w _ hx430_1)).trans hx430_1); (replace hx430_2 := (HB.out.cell (World.block_lt_of_cell? w _ hx430_2)).trans hx430_2); (replace p430 := eq_true p430); (replace q430 := eq_true q430)
         refine start_ (n := 9) (S := fun w' => w'.cell? (ad429.add ((x5_1).toNat * 3)) = some (.int .i64 ((rd_T69 l0 x5_1).f0)) ∧ w'.cell? ⟨(ad429.add ((x5_1).toNat * 3)).block, (ad429.add ((x5_1).toNat * 3)).off + 1, none⟩ = some (.int .i64 ((rd_T69 l0 x5_1).f1)) ∧ w'.cell? ⟨(ad429.add ((x5_1).toNat * 3)).block, (ad429.add ((x5_1).toNat * 3)).off + 2, none⟩ = some (.int .i64 ((rd_T69 l0 x5_1).f2)) ∧ w'.cell? (ad430.add ((x5_1).toNat * 3)) = some (.int .i64 ((rd_T69 l1 x5_1).f0)) ∧ w'.cell? ⟨(ad430.add ((x5_1).toNat * 3)).block, (ad430.add ((x5_1).toNat * 3)).off + 1, none⟩ = some (.int .i64 ((rd_T69 l1 x5_1).f1)) ∧ w'.cell? ⟨(ad430.add ((x5_1).toNat * 3)).block, (ad430.add ((x5_1).toNat * 3)).off + 2, none⟩ = some (.int .i64 ((rd_T69 l1 x5_1).f2))) (ds := []) #[ff,ff,ff,ff,ff,ff,ff,ff,ff] (by kernel_rfl) rfl rfl ⟨((HB.out.cell (World.block_lt_of_cell? w _ hw429_0)).trans hw429_0), ((HB.out.cell (World.block_lt_of_cell? w _ hw429_1)).trans hw429_1), ((HB.out.cell (World.block_lt_of_cell? w _ hw429_2)).trans hw429_2), ((HB.out.cell (World.block_lt_of_cell? w _ hw430_0)).trans hw430_0), ((HB.out.cell (World.block_lt_of_cell? w _ hw430_1)).trans hw430_1), ((HB.out.cell (World.block_lt_of_cell? w _ hw430_2)).trans hw430_2)⟩ (fun hHeld => ?_); refine with_tabW spec_l09Compare.tab8 spec_l09Compare.bits8 (fun HT_ HW_ => ?_)
         (generalize wr.drew = w17 at HB hx429_0 hx429_1 hx429_2 hx430_0 hx430_1 hx430_2 hHeld ⊢); (refine on_ 0 (some 22) ?_); (refine on_ 1 (some 23) ?_); (refine on_ 2 (some 24) ?_); (refine on_ 4 (some 26) ?_); (refine on_ 5 (some 27) ?_); (refine on_ 6 (some 28) ?_); (refine tk_ 3 (some 25) ?_); (refine tk_ 7 (some 29) ?_)
         refine o1_ 8 (some 30) (fun K hK => ?_)
         (refine gs_ Try.func100 #[.agg #[.int .i64 ((rd_T69 l0 x5_1).f0), .int .i64 ((rd_T69 l0 x5_1).f1), .int .i64 ((rd_T69 l0 x5_1).f2)], .agg #[.int .i64 ((rd_T69 l1 x5_1).f0), .int .i64 ((rd_T69 l1 x5_1).f1), .int .i64 ((rd_T69 l1 x5_1).f2)]] ?_); (with_reducible refine (spec_l09Less.calls ((rd_T69 l0 x5_1).f0) ((rd_T69 l0 x5_1).f1) ((rd_T69 l0 x5_1).f2) ((rd_T69 l1 x5_1).f0) ((rd_T69 l1 x5_1).f1) ((rd_T69 l1 x5_1).f2) false _ A7.out).mono ?_); (rintro e w18 ⟨rfl, hb⟩); (refine ⟨_, rfl, ?_⟩); (replace HB := A0_ (below_step bw_ hb)); ((try clear hb)); ((try clear hb2)); ((try clear hk)); ((try clear hi))
         refine hK.out _ _ ⟨((HB.out.cell (World.block_lt_of_cell? w _ hw429_0)).trans hw429_0), ((HB.out.cell (World.block_lt_of_cell? w _ hw429_1)).trans hw429_1), ((HB.out.cell (World.block_lt_of_cell? w _ hw429_2)).trans hw429_2), ((HB.out.cell (World.block_lt_of_cell? w _ hw430_0)).trans hw430_0), ((HB.out.cell (World.block_lt_of_cell? w _ hw430_1)).trans hw430_1), ((HB.out.cell (World.block_lt_of_cell? w _ hw430_2)).trans hw430_2)⟩ (fun hHeld => ?_)
         clear hK K; (refine nm_ (some 30) ?_); (refine dn_ ?_); (try go_wp2); (replace HB := A0_ (below_drew1 HB.out)); (have p432 : 0 ≤ (x5_1 : Int) := of_decide_eq_true as_); (have q432 : x5_1 < (l1.length : Int) := of_decide_eq_true as_); (obtain ⟨ad432, e432, hx432_0, hx432_1, hx432_2⟩ := at_T69 HR1.out x5_1 p432 q432); (have hw432_2 := hx432_2); (have hw432_1 := hx432_1); (have hw432_0 := hx432_0); (obtain rfl : ad430 = ad432 := (by injection e432)); (replace hx432_0 := (HB.out.cell (World.block_lt_of_cell? w _ hx432_0)).trans hx432_0); (replace hx432_1 := (HB.out.cell (World.block_lt_of_cell? w _ hx432_1)).trans hx432_1); (replace hx432_2 := (HB.out.cell (World.block_lt_of_cell? w _ hx432_2)).trans hx432_2); (replace p432 := eq_true p432); (replace q432 := eq_true q432); (have p433 : 0 ≤ (x5_1 : Int) := of_decide_eq_true as_); (have q433 : x5_1 < (l0.length : Int) := of_decide_eq_true as_); (obtain ⟨ad433, e433, hx433_0, hx433_1, hx433_2⟩ := at_T69 HR0.out x5_1 p433 q433); (have hw433_2 := hx433_2); (have hw433_1 := hx433_1); (have hw433_0 := hx433_0); (obtain rfl : ad429 = ad433 := (by injection e433)); (replace hx433_0 := (HB.out.cell (World.block_lt_of_cell? w _ hx433_0)).trans hx433_0); (replace hx433_1 := (HB.out.cell (World.block_lt_of_cell? w _ hx433_1)).trans hx433_1); (replace hx433_2 := (HB.out.cell (World.block_lt_of_cell? w _ hx433_2)).trans hx433_2); (replace p433 := eq_true p433); (replace q433 := eq_true q433)
         refine start_ (n := 9) (S := fun w' => w'.cell? (ad430.add ((x5_1).toNat * 3)) = some (.int .i64 ((rd_T69 l1 x5_1).f0)) ∧ w'.cell? ⟨(ad430.add ((x5_1).toNat * 3)).block, (ad430.add ((x5_1).toNat * 3)).off + 1, none⟩ = some (.int .i64 ((rd_T69 l1 x5_1).f1)) ∧ w'.cell? ⟨(ad430.add ((x5_1).toNat * 3)).block, (ad430.add ((x5_1).toNat * 3)).off + 2, none⟩ = some (.int .i64 ((rd_T69 l1 x5_1).f2)) ∧ w'.cell? (ad429.add ((x5_1).toNat * 3)) = some (.int .i64 ((rd_T69 l0 x5_1).f0)) ∧ w'.cell? ⟨(ad429.add ((x5_1).toNat * 3)).block, (ad429.add ((x5_1).toNat * 3)).off + 1, none⟩ = some (.int .i64 ((rd_T69 l0 x5_1).f1)) ∧ w'.cell? ⟨(ad429.add ((x5_1).toNat * 3)).block, (ad429.add ((x5_1).toNat * 3)).off + 2, none⟩ = some (.int .i64 ((rd_T69 l0 x5_1).f2))) (ds := []) #[ff,ff,ff,ff,ff,ff,ff,ff,ff] (by kernel_rfl) rfl rfl ⟨((HB.out.cell (World.block_lt_of_cell? w _ hw432_0)).trans hw432_0), ((HB.out.cell (World.block_lt_of_cell? w _ hw432_1)).trans hw432_1), ((HB.out.cell (World.block_lt_of_cell? w _ hw432_2)).trans hw432_2), ((HB.out.cell (World.block_lt_of_cell? w _ hw433_0)).trans hw433_0), ((HB.out.cell (World.block_lt_of_cell? w _ hw433_1)).trans hw433_1), ((HB.out.cell (World.block_lt_of_cell? w _ hw433_2)).trans hw433_2)⟩ (fun hHeld => ?_); refine with_tabW spec_l09Compare.tab10 spec_l09Compare.bits10 (fun HT_ HW_ => ?_)
         (generalize w18.drew = w19 at HB hx432_0 hx432_1 hx432_2 hx433_0 hx433_1 hx433_2 hHeld ⊢); (refine on_ 0 (some 31) ?_); (refine on_ 1 (some 32) ?_); (refine on_ 2 (some 33) ?_); (refine on_ 4 (some 35) ?_); (refine on_ 5 (some 36) ?_); (refine on_ 6 (some 37) ?_); (refine tk_ 3 (some 34) ?_); (refine tk_ 7 (some 38) ?_)
         refine o1_ 8 (some 39) (fun K hK => ?_)
         (refine gs_ Try.func100 #[.agg #[.int .i64 ((rd_T69 l1 x5_1).f0), .int .i64 ((rd_T69 l1 x5_1).f1), .int .i64 ((rd_T69 l1 x5_1).f2)], .agg #[.int .i64 ((rd_T69 l0 x5_1).f0), .int .i64 ((rd_T69 l0 x5_1).f1), .int .i64 ((rd_T69 l0 x5_1).f2)]] ?_); (with_reducible refine (spec_l09Less.calls ((rd_T69 l1 x5_1).f0) ((rd_T69 l1 x5_1).f1) ((rd_T69 l1 x5_1).f2) ((rd_T69 l0 x5_1).f0) ((rd_T69 l0 x5_1).f1) ((rd_T69 l0 x5_1).f2) false _ A11.out).mono ?_); (rintro e w20 ⟨rfl, hb⟩); (refine ⟨_, rfl, ?_⟩); (replace HB := A0_ (below_step bw_ hb)); ((try clear hb)); ((try clear hb2)); ((try clear hk)); ((try clear hi))
         refine hK.out _ _ ⟨((HB.out.cell (World.block_lt_of_cell? w _ hw432_0)).trans hw432_0), ((HB.out.cell (World.block_lt_of_cell? w _ hw432_1)).trans hw432_1), ((HB.out.cell (World.block_lt_of_cell? w _ hw432_2)).trans hw432_2), ((HB.out.cell (World.block_lt_of_cell? w _ hw433_0)).trans hw433_0), ((HB.out.cell (World.block_lt_of_cell? w _ hw433_1)).trans hw433_1), ((HB.out.cell (World.block_lt_of_cell? w _ hw433_2)).trans hw433_2)⟩ (fun hHeld => ?_)
         clear hK K; (refine nm_ (some 39) ?_); (refine dn_ ?_); (try go_wp2); (go_roundg k1)
         case measure => have := HK1.out; omega
         case rel => exact ⟨(wrap64 (x5_1 + 1)), (by first | rfl | (simp; done) | (simp [*]; done)), H', ⟨by have := HK1.out; omega⟩, ⟨by repeat (first | (with_reducible first | exact HB.out | apply ba_ | apply bn_ | apply bd_) | exact HB.out)⟩⟩
      ·(rw [if_neg c6] at H); (exact absurd H (by simp))
     ·(rw [if_neg c5] at H); (exact absurd H (by simp))
    ·(rw [if_neg c4] at H); (have c4b0 : decide (x5_1 < (l0.length : Int)) = false := decide_eq_false c4); clear c4; (obtain rfl := Option.some.inj H); go_wp2; go_ret; (exact ⟨er_, bx_⟩)
 ·(rw [if_neg c3] at H); (have c3b0 : ((l0.length : Int) == (l1.length : Int)) = false := beq_eq_false_iff_ne.mpr c3); (have c3b1 : ((l0.length : Int) != (l1.length : Int)) = true := bne_iff_ne.mpr c3); (have c3b2 : (l0.length == l1.length) = false := by first | simpa using c3 | (simp at c3 ⊢; omega)); (by_cases c21 : (l0.length : Int) < (l1.length : Int))
  ·(rw [if_pos c21] at H); (have c21b0 : decide ((l0.length : Int) < (l1.length : Int)) = true := decide_eq_true c21); (have c21b1 : decide (l0.length < l1.length) = true := decide_eq_true (Int.ofNat_lt.mp c21)); clear c21; (obtain rfl := Option.some.inj H); (go_enter Try.func124, Try.ntmps124); go_wp2; go_ret; (exact ⟨er_, bx_⟩)
  ·(rw [if_neg c21] at H); (have c21b0 : decide ((l0.length : Int) < (l1.length : Int)) = false := decide_eq_false c21)
   have c21b1 : decide (l0.length < l1.length) = false := decide_eq_false (fun h => c21 (Int.ofNat_lt.mpr h))
   clear c21; (obtain rfl := Option.some.inj H); (go_enter Try.func124, Try.ntmps124); go_wp2; go_ret; (exact ⟨er_, bx_⟩)
end
section
attribute [local go_sem] max2_int min2_int max_two min_two max_three min_three max_four min_four
def spec_l28Same.f (k : Nat) (l0 : List (S69)) (l1 : List (S69)) : Option (Bool) := (spec_l09Compare.f k l0 l1).bind fun t435 => (some (t435 == 0))
set_option maxHeartbeats 8000000 in
set_option maxRecDepth 100000 in
theorem spec_l28Same.calls (k : Nat) (A0 : Option Addr) (c0 : Nat) (l0 : List (S69)) (A1 : Option Addr) (c1 : Nat) (l1 : List (S69)) (r : Bool) (w : World) (hr0 : Kd.C k69 w A0 l0.length l0) (hc0 : l0.length ≤ c0) (hr1 : Kd.C k69 w A1 l1.length l1) (hc1 : l1.length ≤ c1) (h : spec_l28Same.f k l0 l1 = some r) :
    Calls Try.prog 119 #[.slice A0 l0.length c0, .slice A1 l1.length c1] w fun e w' => e = .returned (.bool r) ∧ Below w.heap.size w w' := by
 (have HR0 := A0_ hr0); (have HC0 := A0_ hc0); clear hr0 hc0; (have HR1 := A0_ hr1); (have HC1 := A0_ hc1); clear hr1 hc1; (have HB := A0_ (Below.refl w.heap.size w))
 have H : ((spec_l09Compare.f k l0 l1).bind fun t435 => (some (t435 == 0))) = some r := h
 clear h; (replace H := Option.bind_eq_some_iff.mp H); (obtain ⟨t435, A30, H⟩ := H); (try dsimp only at H); (have A3 := A0_ A30); clear A30; (have H0_ := A0_ H); clear H; (go_enter Try.func119, Try.ntmps119); (go_wp2_with (first | ((with_reducible refine gate_callee (f := 124) rfl ?_); refine goesL_ (some 7) rfl rfl Try.func124 (by kernel_rfl) rfl #[.slice A0 l0.length c0, .slice A1 l1.length c1] rfl (by (try simp only [List.map_toArray, List.map_cons, List.map_nil]); first | done | rfl | (simp only [List.length_drop, List.length_take]; rfl)) ?_; (with_reducible refine (spec_l09Compare.calls k _ _ l0 _ _ l1 t435 _ ?side1 ?side2 ?side3 ?side4 A3.out).mono ?_); (case side1 => repeat (first | exact HR0.out | (with_reducible refine Kd.C_alloc ?_ _) | (with_reducible refine Kd.C_drewN ?_ _) | (with_reducible refine Kd.C_drew ?_))); (case side2 => exact HC0.out); (case side3 => repeat (first | exact HR1.out | (with_reducible refine Kd.C_alloc ?_ _) | (with_reducible refine Kd.C_drewN ?_ _) | (with_reducible refine Kd.C_drew ?_))); (case side4 => exact HC1.out); rintro e w4 ⟨rfl, hb⟩; refine ⟨_, rfl, ?_⟩; replace HB := A0_ (below_step bw_ hb); (try clear hb); (try clear hb2); (try clear hk); (try clear hi); refine Stop0.out ?_))); (refine Stop0.mk ?_); (have H := H0_.out); clear H0_; (obtain rfl := Option.some.inj H); go_wp2; go_ret; (exact ⟨er_, bx_⟩)
end
abbrev Sl := Option Addr × Nat × Nat
theorem info53 : (Try.prog.info? 53).map (fun i => (i.zero, i.size, i.bytes)) = some (some (.slice none 0 0), 1, 24) := by kernel_rfl
def Res.poolG {α : Type} (d : Kd α) (e base : Nat) (L : List (Sl × List α)) : Res where
 P fp w := ∀ p ∈ L, d.R e w base fp (slV p.1) p.2
 mono h p q hq := Kd.R_mono (p q hq) h
 move h p q hq := (Res.row d e base (slV q.1) q.2).move h (p q hq)
theorem Sp.poolGC {α : Type} {d : Kd α} {e base : Nat} {w0 w : World} {rs : List Res} {i : Nat} {L : List (Sl × List α)} (h : Sp w0 rs w) (hi : rs[i]? = some (Res.poolG d e base L)) {p : Sl × List α} (hp : p ∈ L) : p.1.2.1 = p.2.length ∧ p.1.2.1 ≤ p.1.2.2 ∧ d.C w p.1.1 p.2.length p.2 := by
 obtain ⟨fp, hq, _⟩ := h.get hi
 have h1 := Kd.R_reads' (hq p hp)
 exact ⟨h1.1, h1.2.1, h1.2.2⟩
theorem Sp.poolGNil {α : Type} (d : Kd α) (e : Nat) {w0 w : World} {rs : List Res} (h : Sp w0 rs w) : Sp w0 (Res.poolG d e w0.heap.size [] :: rs) w := h.push (Below.refl _ _) (fun _ hp => by cases hp)
theorem Sp.poolGAdd {α : Type} {d : Kd α} {e base : Nat} {w0 w : World} {rs : List Res} {L : List (Sl × List α)} {A : Option Addr} {n c : Nat} {o : List α} (h : Sp w0 (Res.row d e base (.slice A n c) o :: Res.poolG d e base L :: rs) w) : Sp w0 (Res.poolG d e base (L ++ [((A, n, c), o)]) :: rs) w := by
 refine (Sp.star_close h).weak (i := 0) rfl (fun fp hp => ?_)
 obtain ⟨f1, f2, h1, h2, h3, h4⟩ := hp
 intro p hp
 rcases List.mem_append.1 hp with hp | hp
 ·exact Kd.R_mono (h2 p hp) (fun k hk => h4 k (.inr hk))
 ·obtain rfl := List.mem_singleton.1 hp
  exact Kd.R_mono h1 (fun k hk => h4 k (.inl hk))
theorem at_Sl {w : World} {A : Option Addr} {n : Nat} {xs : List Sl} (h : Kd.C kSl w A n xs) (i : Nat) (h1 : i < n) : ∃ ad , A = some ad ∧ w.cell? (ad.add i) = some (slV (xs.getD i (none, 0, 0))) := by
 obtain ⟨ad, c, e, _, hK, hc0⟩ := Kd.C_get h (none, 0, 0) (i : Int) (by omega) (by omega)
 rw [Int.toNat_natCast] at hK hc0
 have hc : ∀ j u, c[j]? = some u → w.cell? (ad.add (i * 1 + j)) = some u := hc0
 obtain rfl : c = [slV (xs.getD i (none, 0, 0))] := hK
 have := hc 0 _ rfl
 rw [Nat.mul_one, Nat.add_zero] at this
 exact ⟨ad, e, this⟩
theorem Sp.intCell {w0 w : World} {rs : List Res} {i e base n c : Nat} {ad : Addr} {xs : List Int} (h : Sp w0 rs w) (hi : rs[i]? = some (Res.row kI e base (.slice (some ad) n c) xs)) (j : Nat) (hj : j < n) : w.cell? (ad.add j) = some (.int .i64 (xs.getD j 0)) := by
 have hn := (Sp.reads h hi).1
 subst hn
 obtain ⟨ad2, e2, hx⟩ := Kd.at_int (Sp.reads h hi).2.2 (j : Int) (by omega) (by omega)
 injection e2 with e2
 subst e2
 rw [Int.toNat_natCast] at hx
 have e3 : rd xs (j : Int) = xs.getD j 0 := by rw [rd_nat xs j hj]; simp [List.getD_eq_getElem?_getD, hj]
 rw [e3] at hx
 exact hx
theorem Sp.slCell {w0 w : World} {rs : List Res} {i e base n c : Nat} {ad : Addr} {xs : List Sl} (h : Sp w0 rs w) (hi : rs[i]? = some (Res.row kSl e base (.slice (some ad) n c) xs)) (j : Nat) (hj : j < n) : w.cell? (ad.add j) = some (slV (xs.getD j (none, 0, 0))) := by
 have hn := (Sp.reads h hi).1
 subst hn
 obtain ⟨ad2, e2, hx⟩ := at_Sl (Sp.reads h hi).2.2 j hj
 injection e2 with e2
 subst e2
 exact hx
abbrev srBlk (gs : Nat) (Ao : Option Addr) (no co : Nat) (Aw : Option Addr) (nw cw : Nat) (full : Bool) : Res := Res.blk gs #[.slice Ao no co, .slice Aw nw cw, .bool full] 83
abbrev posR (base : Nat) (Ao : Option Addr) (co : Nat) (PS : List (Sl × List Cb)) : Res := Res.row kSl 34 base (.slice Ao PS.length co) (PS.map Prod.fst)
set_option maxHeartbeats 4000000 in
set_option maxRecDepth 100000 in
theorem known_calls (w0 : World) (gs : Nat) (Ao Aw : Option Addr) (co nw cw : Nat) (full : Bool) (PS : List (Sl × List Cb)) (hl : PS.length ≤ 1200) (r : Res) (An : Option Addr) (cn : Nat) (nx : List Cb) (hr : Rds w0 r An nx) (hcn : nx.length ≤ cn) (hsm : ∀ p ∈ PS, ∃ K, spec_l28Same.f K p.2 nx = some (decide (p.2 = nx))) (rest : List Res) (w : World)
  (hs : Sp w0 ([srBlk gs Ao PS.length co Aw nw cw full, posR w0.heap.size Ao co PS, Res.poolG kC 69 w0.heap.size PS, r] ++ rest) w) :
  Calls Try.prog 106 #[.pointer (some ⟨gs, 0, none⟩), .slice An nx.length cn] w fun e w' => e = .returned (.bool ((PS.map Prod.snd).contains nx)) ∧ Sp w0 ([srBlk gs Ao PS.length co Aw nw cw full, posR w0.heap.size Ao co PS, Res.poolG kC 69 w0.heap.size PS, r] ++ rest) w' := by
 have HS := A0_ hs
 have HL := A0_ hl
 have HRD := A0_ hr
 have HCN := A0_ hcn
 have HSM := A0_ hsm
 clear hs hl hr hcn hsm
 go_enter Try.func106, Try.ntmps106
 go_wp2
 go_loopg [5] (PS.length + 1) (fun kq v5 w' => ∃ (i : Nat), v5 = .int .i64 (i : Int) ∧ Aside0 (i ≤ PS.length ∧ kq + i = PS.length + 1 ∧ ∀ j (hj : j < PS.length), j < i → PS[j].2 ≠ nx) ∧ Aside0 (Sp w0 ([srBlk gs Ao PS.length co Aw nw cw full, posR w0.heap.size Ao co PS, Res.poolG kC 69 w0.heap.size PS, r] ++ rest) w'))
 case atStart => exact ⟨0, rfl, ⟨by omega, by omega, fun j hj h => by omega⟩, HS⟩
 case round =>
  clear HS
  obtain ⟨i, rfl, HX, HS⟩ := hrel
  obtain ⟨k1, rfl⟩ : ∃ k1, gk = k1 + 1 := ⟨gk - 1, by have := HX.out; omega⟩
  have hs0 : wr.cell? ⟨gs, 0, none⟩ = some (.slice Ao PS.length co) := (cl_ HS 0 0 rfl).trans rfl
  by_cases ci : i < PS.length
  ·have ci0 : decide (i < PS.length) = true := decide_eq_true ci
   have q0 : (0 ≤ (i : Int)) = True := eq_true (by omega)
   have q1 : ((i : Int) < (PS.length : Int)) = True := eq_true (by omega)
   obtain ⟨adp, e, hx⟩ := at_Sl (Sp.reads HS.out (i := 1) rfl).2.2 i (by rw [List.length_map]; exact ci)
   subst e
   have hin : PS[i] ∈ PS := List.getElem_mem ci
   have hgd : (PS.map Prod.fst).getD i (none, 0, 0) = PS[i].1 := by simp [List.getD_eq_getElem?_getD, ci]
   rw [hgd] at hx
   obtain ⟨g1, g2, g3⟩ := Sp.poolGC HS.out (i := 2) rfl hin
   obtain ⟨K, hK⟩ := HSM.out _ hin
   have HNX := A0_ (fun (h : PS[i].2 ≠ nx) j (hj : j < PS.length) (h2 : j < i + 1) => show PS[j].2 ≠ nx by
    by_cases c : j = i
    ·subst c; exact h
    ·exact HX.out.2.2 j hj (by omega))
   have HYES := A0_ (fun (h : PS[i].2 = nx) => show (PS.map Prod.snd).contains nx = true by
    rw [List.contains_iff_mem, List.mem_map]
    exact ⟨_, hin, h⟩)
   have HW := A0_ (wrap_succ i (by have := HL.out; omega))
   generalize PS[i] = p at hx g1 g2 g3 hK HNX HYES
   obtain ⟨⟨A1, n1, c1⟩, o⟩ := p
   dsimp only at hx g1 g2 g3 hK HNX HYES
   subst g1
   have HC1 := A0_ g3
   have HC2 := A0_ g2
   have HC3 := A0_ (Sp.rds HS.out (i := 3) rfl HRD.out)
   clear hgd hin ci g2 g3
   by_cases ce : o = nx
   ·rw [decide_eq_true ce] at hK
    have HK := A0_ hK
    have HY := A0_ (HYES.out ce)
    clear ce hK HNX HYES
    go_wp2_with (first
     | (go_at_call 119; refine (spec_l28Same.calls K A1 c1 o An cn nx true _ HC1.out HC2.out HC3.out HCN.out HK.out).mono ?_; rintro e wc_ ⟨rfl, hb_⟩; replace HS := A0_ (Sp.far HS.out hb_); clear hb_ hx hs0))
    go_ret
    exact ⟨by rw [HY.out]; rfl, HS.out⟩
   ·rw [decide_eq_false ce] at hK
    have HK := A0_ hK
    have HN := A0_ (HNX.out ce)
    clear ce hK HNX HYES
    go_wp2_with (first
     | (go_at_call 119; refine (spec_l28Same.calls K A1 c1 o An cn nx false _ HC1.out HC2.out HC3.out HCN.out HK.out).mono ?_; rintro e wc_ ⟨rfl, hb_⟩; replace HS := A0_ (Sp.far HS.out hb_); clear hb_ hx hs0))
    go_roundg k1
    case measure => omega
    case rel =>
     rw [HW.out]
     exact ⟨i + 1, rfl, ⟨by have := of_decide_eq_true ci0; omega, by have := HX.out; omega, HN.out⟩, HS⟩
  ·have ci0 : decide (i < PS.length) = false := decide_eq_false ci
   have HN := A0_ (show (PS.map Prod.snd).contains nx = false by
    rw [Bool.eq_false_iff]
    intro hc
    rw [List.contains_iff_mem, List.mem_map] at hc
    obtain ⟨p, hp, e⟩ := hc
    obtain ⟨j, hj, rfl⟩ := List.getElem_of_mem hp
    exact HX.out.2.2 j hj (by omega) e)
   clear ci
   go_wp2
   go_ret
   exact ⟨by rw [HN.out]; rfl, HS.out⟩
abbrev kC2 : Kd (List Cb) := Kd.slice 69 kC
def slOf : Value → Sl
 | .slice A n c => (A, n, c)
 | _ => (none, 0, 0)
abbrev rowsOf (base : Nat) (L : List (Sl × List Cb)) : List Res := L.map fun p => Res.row kC 69 base (slV p.1) p.2
theorem split_S {w w1 : World} {v : Value} {xss : List (List Cb)} (b : Nat) (hb0 : b ≤ w.heap.size) (hb : Below w.heap.size w w1) (hS : Kd.S kC2 34 w1 w.heap.size (fun _ => True) v xss) :
  ∃ L : List (Sl × List Cb), L.map Prod.snd = xss ∧ Sp w (Res.row kSl 34 b v (L.map Prod.fst) :: rowsOf b L) w1 := by
 obtain ⟨f, hR⟩ := hS
 obtain ⟨h0, inner, ho, hl, hr⟩ := Kd.R_bound hR
 have hl1 : inner.length = xss.length := by rw [hl, List.length_zipIdx]; exact Nat.mul_one _
 have he : ∀ j x, xss[j]? = some x → ∃ u, inner[j]? = some u ∧ slV (slOf u) = u ∧ kC.R 69 w1 w.heap.size (fun k => (w.heap.size ≤ k ∧ k < w1.heap.size) ∧ f k = j ∧ some k ≠ v.ownBlock) u x := by
  intro j x hx
  obtain ⟨u, hcs, hu⟩ := hr j (x, j) (Kd.zip_at hx)
  have hcs : (inner.drop (j * 1)).take 1 = [u] := hcs
  have hj : j < xss.length := (List.getElem?_eq_some_iff.1 hx).1
  have hu1 : inner[j]? = some u := by
   have h1 : ((inner.drop (j * 1)).take 1)[0]? = some u := by rw [hcs]; rfl
   rw [List.getElem?_take, if_pos (by omega), List.getElem?_drop, Nat.mul_one, Nat.add_zero] at h1
   exact h1
  refine ⟨u, hu1, ?_, Kd.R_mono hu (fun k hk => ⟨⟨hk.1.1.2.1, hk.1.1.2.2.1⟩, hk.2, hk.1.2⟩)⟩
  obtain ⟨A, c, rfl⟩ := Kd.R_slice hu
  rfl
 refine ⟨(inner.map slOf).zip xss, ?_, hb, fun j => match j with | 0 => fun k => v.ownBlock = some k | j + 1 => fun k => (w.heap.size ≤ k ∧ k < w1.heap.size) ∧ f k = j ∧ some k ≠ v.ownBlock, ?_, ?_, ?_⟩
 ·rw [List.map_snd_zip]
  rw [List.length_map]; omega
 ·intro j r hj
  cases j with
  | zero =>
   injection hj with hj
   subst hj
   rw [List.map_fst_zip (by rw [List.length_map]; omega)]
   refine Kd.R_of_own ?_ (fun k hk => hk)
   have e1 : encs slV (inner.map slOf) = inner := by
    unfold encs
    rw [List.map_map]
    apply List.ext_getElem?
    intro j
    rw [List.getElem?_map]
    cases hi : inner[j]? with
    | none => rfl
    | some u =>
     have hj : j < xss.length := by have := (List.getElem?_eq_some_iff.1 hi).1; omega
     obtain ⟨u', h1, h2, _⟩ := he j _ (List.getElem?_eq_getElem hj)
     rw [hi] at h1
     injection h1 with h1
     subst h1
     exact congrArg some h2
   rw [e1, List.length_map]
   have h2 := own_weaken ho hb0
   rw [List.length_zipIdx, ← hl1] at h2
   exact h2
  | succ j =>
   rw [List.getElem?_cons_succ] at hj
   unfold rowsOf at hj
   rw [List.getElem?_map] at hj
   obtain ⟨p, hp, rfl⟩ := Option.map_eq_some_iff.1 hj
   obtain ⟨h1, h2⟩ := List.getElem?_zip_eq_some.1 hp
   obtain ⟨u, g1, g2, g3⟩ := he j _ h2
   rw [List.getElem?_map, g1] at h1
   injection h1 with h1
   show kC.R _ w1 b _ (slV p.1) p.2
   rw [← h1, g2]
   exact Kd.R_lower g3 hb0
 ·intro i j k hij hi hj
  cases i with
  | zero =>
   cases j with
   | zero => exact hij rfl
   | succ j => exact hj.2.2 (Eq.symm hi)
  | succ i =>
   cases j with
   | zero => exact hi.2.2 (Eq.symm hj)
   | succ j => exact hij (by have h1 := hi.2.1; have h2 := hj.2.1; omega)
 ·intro i k hi
  cases i with
  | zero => exact ⟨own_base ho k hi, own_lt ho k hi⟩
  | succ i => exact hi.1
theorem Sp.split {w0 w w1 : World} {rs : List Res} {v : Value} {xss : List (List Cb)} (h : Sp w0 rs w) (hb : Below w.heap.size w w1) (hS : Kd.S kC2 34 w1 w.heap.size (fun _ => True) v xss) :
  ∃ L : List (Sl × List Cb), L.map Prod.snd = xss ∧ Sp w0 (Res.row kSl 34 w0.heap.size v (L.map Prod.fst) :: (rowsOf w0.heap.size L ++ rs)) w1 := by
 obtain ⟨L, h1, h2⟩ := split_S w0.heap.size h.below.size hb hS
 exact ⟨L, h1, Sp.app h h2⟩
theorem Sp.joinRows {w0 w : World} {rs : List Res} {v : Value} {L : List (Sl × List Cb)} (h : Sp w0 (Res.row kSl 34 w0.heap.size v (L.map Prod.fst) :: (rowsOf w0.heap.size L ++ rs)) w) : Kd.S kC2 34 w w0.heap.size (fun _ => True) v (L.map Prod.snd) := by
 obtain ⟨F, f1, f2, f3⟩ := h.foot
 classical
 have h0 : kSl.R 34 w w0.heap.size (F 0) v (L.map Prod.fst) := f1 0 _ rfl
 have ho := Kd.own_of_R h0
 refine ⟨fun k => if h : ∃ j, F (j + 1) k then h.choose else 0, fun k _ => trivial, encs slV (L.map Prod.fst), ?_, ?_, ?_⟩
 ·rw [List.length_zipIdx, List.length_map]
  rw [List.length_map] at ho
  exact ho
 ·rw [encs_length, List.length_zipIdx, List.length_map, List.length_map]
  exact (Nat.mul_one _).symm
 ·intro j p hp
  rw [List.getElem?_zipIdx] at hp
  obtain ⟨x, hx, rfl⟩ := Option.map_eq_some_iff.1 hp
  rw [List.getElem?_map] at hx
  obtain ⟨q, hq, rfl⟩ := Option.map_eq_some_iff.1 hx
  have hj : j < L.length := (List.getElem?_eq_some_iff.1 hq).1
  have hrow : kC.R 69 w w0.heap.size (F (j + 1)) (slV q.1) q.2 := f1 (j + 1) _ (by rw [List.getElem?_cons_succ, List.getElem?_append_left (by simp only [rowsOf, List.length_map]; exact hj)]; unfold rowsOf; rw [List.getElem?_map, hq]; rfl)
  refine ⟨slV q.1, ?_, Kd.R_mono hrow (fun k hk => ⟨⟨trivial, ?_⟩, ?_⟩)⟩
  ·have h1 : (encs slV (L.map Prod.fst))[j]? = some (slV q.1) := by unfold encs; rw [List.getElem?_map, List.getElem?_map, hq]; rfl
   show ((encs slV (L.map Prod.fst)).drop (j * 1)).take 1 = [slV q.1]
   rw [Nat.mul_one, List.drop_eq_getElem_cons (List.getElem?_eq_some_iff.1 h1).1, (List.getElem?_eq_some_iff.1 h1).2]
   rfl
  ·intro hk2
   exact f2 0 (j + 1) k (by omega) (h0.1 k hk2.symm) hk
  ·have hex : ∃ j, F (j + 1) k := ⟨j, hk⟩
   show (if h : ∃ j, F (j + 1) k then h.choose else 0) = 0 + j
   rw [dif_pos hex, Nat.zero_add]
   apply Classical.byContradiction
   intro hne
   exact f2 (hex.choose + 1) (j + 1) k (by omega) hex.choose_spec hk
def laysDel_ren : Go.Shelf.Ren := ⟨fun | 45 => 73 | n => n, fun | 22 => 28 | 23 => 34 | n => n, fun n => n⟩
theorem laysDel : Go.Proofs.SlLaysE.n45 Try.prog laysDel_ren := {
 mixed := by kernel_rfl
 f45 := ⟨Try.f73.name, by decide, Try.func73.trans (congrArg some (by kernel_rfl))⟩
 t0 := Try.underlying0
 a0 := Try.isAgg0
 z0 := Try.sizeOf0
 v0 := Try.zeroValue0
 t3 := Try.underlying3
 a3 := Try.isAgg3
 z3 := Try.sizeOf3
 v3 := Try.zeroValue3
 t4 := Try.underlying4
 a4 := Try.isAgg4
 z4 := Try.sizeOf4
 v4 := Try.zeroValue4
 t22 := Try.underlying28
 a22 := Try.isAgg28
 z22 := Try.sizeOf28
 v22 := Try.zeroValue28
 a23 := Try.isAgg34
 z23 := Try.sizeOf34 }
theorem delG {P : Program} {ρ : Go.Shelf.Ren} (LY : Go.Proofs.SlLaysE.n45 P ρ) {α : Type} [Inhabited α] (enc : α → Value) (h1 : ∀ x, (enc x).oneCell' = true) (zr : α) (v23 : ∀ w, (zeroValue (ρ.t 23)).run P w = .ok (enc zr) w) (i0 : TypeInfo) (hi0 : P.info? (ρ.t 23) = some i0) (hz1 : i0.size = 1)
  (e : Nat) (w0 : World) (A : Option Addr) (n c : Nat) (xs : List α) (rs : List Res) (j : Nat) (hj : j < xs.length) (w : World) (hn : n = xs.length) (h : Sp w0 (Res.row (Kd.scalar enc h1) e w0.heap.size (.slice A n c) xs :: rs) w) :
  Calls P (ρ.f 45) #[.slice A n c, .int .i64 (j : Int), .int .i64 ((j : Int) + 1)] w fun ex w' => ex = .returned (.slice A (n - 1) c) ∧ Sp w0 (Res.row (Kd.scalar enc h1) e w0.heap.size (.slice A (n - 1) c) (xs.eraseIdx j) :: rs) w' := by
 subst hn
 obtain ⟨fp, hR, hfp, hback⟩ := Sp.lend h (i := 0) rfl
 have hR : (Kd.scalar enc h1).R e w w0.heap.size fp (.slice A xs.length c) xs := hR
 have ho := Kd.own_of_R hR
 have hne : Value.slice A xs.length c ≠ .slice none 0 0 := by
  intro e; injection e with _ e2 _; omega
 obtain ⟨g, cap, ev, hb, hg, hn, hm, hl, hh⟩ := Go.Lib.holds_of_ownsRow (enc := enc) ho hne
 injection ev with e1 _ e3
 subst e1 e3
 have hcall := Go.Proofs.AnyE.slices_Delete LY enc h1 zr v23 i0 hi0 hz1 g 0 c j (j + 1) xs.toArray w hh hn (Nat.le_trans hm (by decide)) (by omega) (by rw [List.size_toArray]; omega)
 refine hcall.mono ?_
 rintro ex w' ⟨rfl, q, rfl⟩
 have hlen : (xs.take j ++ xs.drop (j + 1) ++ List.replicate 1 zr).length = xs.length := by simp; omega
 have hp := Go.Lib.ownsRow_putRow (q := q) (ys := xs.take j ++ xs.drop (j + 1) ++ List.replicate 1 zr) ho hlen (Nat.sub_le _ 1)
 have htk : (xs.take j ++ xs.drop (j + 1) ++ List.replicate 1 zr).take (xs.length - 1) = xs.eraseIdx j := by
  rw [List.take_append_of_le_length (by simp; omega), List.take_of_length_le (by simp; omega), List.eraseIdx_eq_take_drop_succ]
 rw [htk] at hp
 have hs2 : (Sort.putRow enc (Sort.ahead w q) g 0 (xs.take j ++ xs.drop (j + 1) ++ List.replicate 1 zr).toArray).heap.size = w.heap.size := by simp [Sort.putRow, Sort.mapBlock, Sort.ahead]
 have hfg : fp g := hR.1 g rfl
 have ht : Turns fp w (Sort.putRow enc (Sort.ahead w q) g 0 (xs.take j ++ xs.drop (j + 1) ++ List.replicate 1 zr).toArray) :=
  ⟨rfl, rfl, rfl, by rw [hs2]; exact Nat.le_refl _, fun k hk hne => by
   have : g ≠ k := fun e => hne (e ▸ hfg)
   simp [Sort.putRow, Sort.mapBlock, Sort.ahead, Array.getElem?_modify, this]⟩
 have hlen2 : (xs.eraseIdx j).length = xs.length - 1 := by rw [List.length_eraseIdx, if_pos hj]
 refine ⟨by simp, ?_⟩
 have hfin := hback _ (Res.row (Kd.scalar enc h1) e w0.heap.size (.slice (some ⟨g, 0, none⟩) (xs.length - 1) c) (xs.eraseIdx j)) ht (Kd.R_of_own (by rw [hlen2]; exact hp) (fun k hk => .inl (by injection hk with hk; exact hk ▸ hfg)))
 simp only [List.toList_toArray, Nat.add_sub_cancel_left] at hfin ⊢
 exact hfin
instance instSl : Inhabited Sl := ⟨(none, 0, 0)⟩
theorem infoDel : (Try.prog.info? 34).map (fun i => i.size) = some 1 := by kernel_rfl
theorem delSl_calls (w0 : World) (A : Option Addr) (n c : Nat) (xs : List Sl) (rs : List Res) (j : Nat) (hj : j < xs.length) (w : World) (hn : n = xs.length) (h : Sp w0 (Res.row kSl 34 w0.heap.size (.slice A n c) xs :: rs) w) :
  Calls Try.prog 73 #[.slice A n c, .int .i64 (j : Int), .int .i64 ((j : Int) + 1)] w fun ex w' => ex = .returned (.slice A (n - 1) c) ∧ Sp w0 (Res.row kSl 34 w0.heap.size (.slice A (n - 1) c) (xs.eraseIdx j) :: rs) w' := by
 obtain ⟨i0, hi0, hz⟩ := Option.map_eq_some_iff.1 infoDel
 exact delG laysDel slV (fun _ => rfl) (none, 0, 0) Try.zeroValue34 i0 hi0 hz 34 w0 A n c xs rs j hj w hn h
theorem erase_map {α β : Type} (f : α → β) : ∀ (L : List α) (j : Nat), (L.map f).eraseIdx j = (L.eraseIdx j).map f
 | [], j => by simp
 | x :: L, 0 => by simp
 | x :: L, j + 1 => by simp [erase_map f L j]
theorem rowsOf_erase (b : Nat) (L : List (Sl × List Cb)) (j : Nat) : rowsOf b (L.eraseIdx j) = (rowsOf b L).eraseIdx j := by
 unfold rowsOf
 rw [erase_map]
theorem erase_fst (L : List (Sl × List Cb)) (j : Nat) : (L.map Prod.fst).eraseIdx j = (L.eraseIdx j).map Prod.fst := by
 rw [erase_map]
theorem Sp.dropRow {w0 w : World} {r : Res} {rs : List Res} {L : List (Sl × List Cb)} {j : Nat} (h : Sp w0 (r :: (rowsOf w0.heap.size L ++ rs)) w) (hj : j < L.length) : Sp w0 (r :: (rowsOf w0.heap.size (L.eraseIdx j) ++ rs)) w := by
 have h1 := Sp.out h (j + 1)
 rw [rowsOf_erase]
 rwa [List.eraseIdx_cons_succ, List.eraseIdx_append_of_lt_length (by simp only [rowsOf, List.length_map]; exact hj)] at h1
def meetS (a b : List Cb) : Bool := a.any fun c => b.contains c
abbrev pAt (parts : List (List Cb)) (i : Nat) : List Cb := partAt parts (i : Int)
def rowOk (parts : List (List Cb)) (i : Nat) : Bool := solP (pAt parts i) && (conP (pAt parts i) && ((List.range (pAt parts i).length).all (fun c => inCb (cAt (pAt parts i) c) 0 7) && (List.range i).all fun k => !meetS (pAt parts i) (pAt parts k)))
theorem pAt_mem (parts : List (List Cb)) (i : Nat) (h : i < parts.length) : pAt parts i ∈ parts := by
 have : pAt parts i = parts[i] := by unfold pAt partAt; simp [h]
 rw [this]; exact List.getElem_mem _
def asmS (parts : List (List Cb)) : Bool := (decide (2 ≤ parts.length) && decide (parts.length ≤ 4)) && (List.range parts.length).all (rowOk parts)
theorem range_no (q : Nat → Bool) (n j : Nat) (hj : j < n) (h : q j = false) : (List.range n).all q = false := by
 rw [Bool.eq_false_iff]
 intro hc
 rw [List.all_eq_true] at hc
 have := hc j (List.mem_range.2 hj)
 rw [h] at this
 cases this
theorem range_next (q : Nat → Bool) (j : Nat) (h : (List.range j).all q = true) (h2 : q j = true) : (List.range (j + 1)).all q = true := by
 rw [List.range_succ, List.all_append, h]
 simp [h2]
theorem asmS_no (parts : List (List Cb)) (i : Nat) (hi : i < parts.length) (h : rowOk parts i = false) : asmS parts = false := by
 unfold asmS
 rw [range_no _ _ i hi h, Bool.and_false]
theorem asmS_end (parts : List (List Cb)) (hn : inR (parts.length : Int) 2 4 = true) (h : (List.range parts.length).all (rowOk parts) = true) : asmS parts = true := by
 unfold inR at hn
 rw [Bool.and_eq_true, decide_eq_true_eq, decide_eq_true_eq] at hn
 unfold asmS
 rw [h, decide_eq_true (show 2 ≤ parts.length by omega), decide_eq_true (show parts.length ≤ 4 by omega)]
 rfl
theorem asmS_few (parts : List (List Cb)) (hn : inR (parts.length : Int) 2 4 = false) : asmS parts = false := by
 unfold asmS
 have : (decide (2 ≤ parts.length) && decide (parts.length ≤ 4)) = false := by
  rw [← hn]
  unfold inR
  rw [Bool.eq_iff_iff]
  simp only [Bool.and_eq_true, decide_eq_true_eq]
  omega
 rw [this, Bool.false_and]
section
attribute [local go_sem] max2_int min2_int max_two min_two max_three min_three max_four min_four
attribute [local go_sem high] eqA69
def spec_l09Index.l0 : Nat → List (S69) → Int → Int → Int → Int → Option (Int)
  | 0, _, _, _, _, _ => none
  | k + 1, x0, x5, x126000, x126001, x126002 => if x5 < (x0.length : Int) then (if 0 ≤ x5 then (if (((rd_T69 x0 x5).f0) == x126000 && (((rd_T69 x0 x5).f1) == x126001 && (((rd_T69 x0 x5).f2) == x126002))) = true then (some x5) else (spec_l09Index.l0 k x0 (wrap64 (x5 + 1)) x126000 x126001 x126002)) else (none)) else (some (-1))
def spec_l09Index.f (k : Nat) (l0 : List (S69)) (a1_0 : Int) (a1_1 : Int) (a1_2 : Int) : Option (Int) := spec_l09Index.l0 k l0 0 a1_0 a1_1 a1_2
set_option maxHeartbeats 8000000 in
set_option maxRecDepth 100000 in
theorem spec_l09Index.calls (k : Nat) (A0 : Option Addr) (c0 : Nat) (l0 : List (S69)) (a1_0 : Int) (a1_1 : Int) (a1_2 : Int) (r : Int) (w : World) (hr0 : Kd.C k69 w A0 l0.length l0) (hc0 : l0.length ≤ c0) (h : spec_l09Index.f k l0 a1_0 a1_1 a1_2 = some r) :
    Calls Try.prog 102 #[.slice A0 l0.length c0, .agg #[.int .i64 a1_0, .int .i64 a1_1, .int .i64 a1_2]] w fun e w' => e = .returned (.int .i64 r) ∧ Below w.heap.size w w' := by
 (have hu69 := Try.underlying69); (have HR0 := A0_ hr0); (have HC0 := A0_ hc0); clear hr0 hc0; (have HB := A0_ (Below.refl w.heap.size w)); (have H : (spec_l09Index.l0 k l0 0 a1_0 a1_1 a1_2) = some r := h); clear h; (have H' := A0_ H); clear H; (go_enter Try.func102, Try.ntmps102); (go_wp2_with (first | ((with_reducible refine gate_dst (N := 3) rfl ?_); refine be_ (N := 3) (cs := #[.int .i64 a1_0, .int .i64 a1_1, .int .i64 a1_2]) (t := 69) ?_; intro gb125 hg w3 hbox hb; have n0_ := A0_ (below_step bw_ hb); have n1_ := A0_ (hbox); have n2_ := A0_ ((by rw [hg]; exact (below_size bw_) : w.heap.size ≤ gb125)); have n3_ := A0_ ((by rw [hg]; exact (below_size bw_) : w.heap.size ≤ gb125)); clear HB; have HB := n0_; have BK125 := n1_; have GW125 := n2_; have GE125 := n3_; clear n0_ n1_ n2_ n3_; clear hb hbox hg))); (repeat (go_quiet (first | ((with_reducible refine gate_dst (N := 3) rfl ?_); refine be_ (N := 3) (cs := #[.int .i64 a1_0, .int .i64 a1_1, .int .i64 a1_2]) (t := 69) ?_; intro gb125 hg w3 hbox hb; have n0_ := A0_ (below_step bw_ hb); have n1_ := A0_ (hbox); have n2_ := A0_ ((by rw [hg]; exact (below_size bw_) : w.heap.size ≤ gb125)); have n3_ := A0_ ((by rw [hg]; exact (below_size bw_) : w.heap.size ≤ gb125)); clear HB; have HB := n0_; have BK125 := n1_; have GW125 := n2_; have GE125 := n3_; clear n0_ n1_ n2_ n3_; clear hb hbox hg)); try go_wp2_with (first | ((with_reducible refine gate_dst (N := 3) rfl ?_); refine be_ (N := 3) (cs := #[.int .i64 a1_0, .int .i64 a1_1, .int .i64 a1_2]) (t := 69) ?_; intro gb125 hg w3 hbox hb; have n0_ := A0_ (below_step bw_ hb); have n1_ := A0_ (hbox); have n2_ := A0_ ((by rw [hg]; exact (below_size bw_) : w.heap.size ≤ gb125)); have n3_ := A0_ ((by rw [hg]; exact (below_size bw_) : w.heap.size ≤ gb125)); clear HB; have HB := n0_; have BK125 := n1_; have GW125 := n2_; have GE125 := n3_; clear n0_ n1_ n2_ n3_; clear hb hbox hg))))
 go_loopg [5] k (fun kq v5 w' => ∃ (x5_1 : Int), v5 = .int .i64 x5_1 ∧ Aside0 (spec_l09Index.l0 kq l0 x5_1 a1_0 a1_1 a1_2 = some r) ∧ Aside0 (kq ≤ k) ∧ Aside0 (w'.heap[gb125]? = some (.cells #[.int .i64 a1_0, .int .i64 a1_1, .int .i64 a1_2] 69 (0, 0))) ∧ Aside0 (Below w.heap.size w w'))
 case atStart => exact ⟨(0), (by first | rfl | (simp; done) | (simp [*]; done)), H', ⟨Nat.le_refl _⟩, ⟨by (with_reducible repeat (first | apply gn_ | apply gd_ | apply ga_)); exact BK125.out⟩, ⟨by repeat (first | (with_reducible first | exact HB.out | apply ba_ | apply bn_ | apply bd_ | refine below_set ?_ GE125.out) | exact HB.out)⟩⟩
 case round =>
  clear H'; (try clear c1); (try clear p2); (obtain ⟨x5_1, rfl, HA, HK1, BK125, HB⟩ := hrel)
  cases gk with
  | zero => exact absurd HA.out (by simp [spec_l09Index.l0])
  | succ k1 =>
   (have H := HA.out); clear HA; (simp only [spec_l09Index.l0] at H); (by_cases c4 : x5_1 < (l0.length : Int))
   ·(rw [if_pos c4] at H); (have c4b0 : decide (x5_1 < (l0.length : Int)) = true := decide_eq_true c4); clear c4; (by_cases c5 : 0 ≤ x5_1)
    ·(rw [if_pos c5] at H); (have c5b0 : decide (0 ≤ x5_1) = true := decide_eq_true c5); clear c5; (by_cases c6 : (((rd_T69 l0 x5_1).f0) == a1_0 && (((rd_T69 l0 x5_1).f1) == a1_1 && (((rd_T69 l0 x5_1).f2) == a1_2))) = true)
     ·(rw [if_pos c6] at H); (have c6b0 : (((rd_T69 l0 x5_1).f0) == a1_0 && (((rd_T69 l0 x5_1).f1) == a1_1 && (((rd_T69 l0 x5_1).f2) == a1_2))) = true := c6); ((try (have c6b1 : decide (((rd_T69 l0 x5_1).f0) = a1_0 && (((rd_T69 l0 x5_1).f1) == a1_1 && (((rd_T69 l0 x5_1).f2) == a1_2))) = true := by simpa using c6))); ((try (have c6b2 : (((rd_T69 l0 x5_1).f0) == a1_0 && (((rd_T69 l0 x5_1).f1) == a1_1 && (((rd_T69 l0 x5_1).f2) == a1_2))) = true := by simpa using c6))); clear c6; (obtain rfl := Option.some.inj H); (have p126 : 0 ≤ (x5_1 : Int) := of_decide_eq_true as_); (have q126 : x5_1 < (l0.length : Int) := of_decide_eq_true as_); (obtain ⟨ad126, e126, hx126_0, hx126_1, hx126_2⟩ := at_T69 HR0.out x5_1 p126 q126); (cases e126); (replace hx126_0 := (HB.out.cell (World.block_lt_of_cell? w _ hx126_0)).trans hx126_0); (replace hx126_1 := (HB.out.cell (World.block_lt_of_cell? w _ hx126_1)).trans hx126_1); (replace hx126_2 := (HB.out.cell (World.block_lt_of_cell? w _ hx126_2)).trans hx126_2); (replace p126 := eq_true p126); (replace q126 := eq_true q126); (have hcz7_0 : wr.cell? ⟨gb125, 0, none⟩ = some (.int .i64 a1_0) := (blk_cell BK125.out 0).trans rfl); (have hcz7_1 : wr.cell? ⟨gb125, 1, none⟩ = some (.int .i64 a1_1) := (blk_cell BK125.out 1).trans rfl); (have hcz7_2 : wr.cell? ⟨gb125, 2, none⟩ = some (.int .i64 a1_2) := (blk_cell BK125.out 2).trans rfl); (have hfz7_0 := blk_frozen BK125.out 0); (have hfz7_1 := blk_frozen BK125.out 1); (have hfz7_2 := blk_frozen BK125.out 2); go_wp2; (repeat (go_quiet (fail); try go_wp2)); go_ret; (exact ⟨er_, bx_⟩)
     ·(rw [if_neg c6] at H); (have c6b0 : (((rd_T69 l0 x5_1).f0) == a1_0 && (((rd_T69 l0 x5_1).f1) == a1_1 && (((rd_T69 l0 x5_1).f2) == a1_2))) = false := by simpa using c6); ((try (have c6b1 : decide (((rd_T69 l0 x5_1).f0) = a1_0 && (((rd_T69 l0 x5_1).f1) == a1_1 && (((rd_T69 l0 x5_1).f2) == a1_2))) = false := by simpa using c6))); ((try (have c6b2 : (((rd_T69 l0 x5_1).f0) == a1_0 && (((rd_T69 l0 x5_1).f1) == a1_1 && (((rd_T69 l0 x5_1).f2) == a1_2))) = false := by simpa using c6))); ((try (have c6b3 : ¬ (((rd_T69 l0 x5_1).f0) = a1_0 && (((rd_T69 l0 x5_1).f1) == a1_1 && (((rd_T69 l0 x5_1).f2) == a1_2))) := by simpa using c6))); clear c6; (have H' := A0_ H); clear H; (have p126 : 0 ≤ (x5_1 : Int) := of_decide_eq_true as_); (have q126 : x5_1 < (l0.length : Int) := of_decide_eq_true as_); (obtain ⟨ad126, e126, hx126_0, hx126_1, hx126_2⟩ := at_T69 HR0.out x5_1 p126 q126); (cases e126); (replace hx126_0 := (HB.out.cell (World.block_lt_of_cell? w _ hx126_0)).trans hx126_0); (replace hx126_1 := (HB.out.cell (World.block_lt_of_cell? w _ hx126_1)).trans hx126_1); (replace hx126_2 := (HB.out.cell (World.block_lt_of_cell? w _ hx126_2)).trans hx126_2); (replace p126 := eq_true p126); (replace q126 := eq_true q126); (have hcz8_0 : wr.cell? ⟨gb125, 0, none⟩ = some (.int .i64 a1_0) := (blk_cell BK125.out 0).trans rfl); (have hcz8_1 : wr.cell? ⟨gb125, 1, none⟩ = some (.int .i64 a1_1) := (blk_cell BK125.out 1).trans rfl); (have hcz8_2 : wr.cell? ⟨gb125, 2, none⟩ = some (.int .i64 a1_2) := (blk_cell BK125.out 2).trans rfl); (have hfz8_0 := blk_frozen BK125.out 0); (have hfz8_1 := blk_frozen BK125.out 1); (have hfz8_2 := blk_frozen BK125.out 2); go_wp2; (repeat (go_quiet (fail); try go_wp2)); (go_roundg k1)
      case measure => have := HK1.out; omega
      case rel => exact ⟨(wrap64 (x5_1 + 1)), (by first | rfl | (simp; done) | (simp [*]; done)), H', ⟨by have := HK1.out; omega⟩, ⟨by (with_reducible repeat (first | apply gn_ | apply gd_ | apply ga_)); exact BK125.out⟩, ⟨by repeat (first | (with_reducible first | exact HB.out | apply ba_ | apply bn_ | apply bd_ | refine below_set ?_ GE125.out) | exact HB.out)⟩⟩
    ·(rw [if_neg c5] at H); (exact absurd H (by simp))
   ·(rw [if_neg c4] at H); (have c4b0 : decide (x5_1 < (l0.length : Int)) = false := decide_eq_false c4); clear c4; (obtain rfl := Option.some.inj H); go_wp2; (repeat (go_quiet (fail); try go_wp2)); go_ret; (exact ⟨er_, bx_⟩)
end
section
attribute [local go_sem] max2_int min2_int max_two min_two max_three min_three max_four min_four
def spec_l09Add.f (a0_0 : Int) (a0_1 : Int) (a0_2 : Int) (a1_0 : Int) (a1_1 : Int) (a1_2 : Int) : Option (Int × Int × Int) := some (wrap64 (a0_0 + a1_0), wrap64 (a0_1 + a1_1), wrap64 (a0_2 + a1_2))
set_option maxHeartbeats 8000000 in
set_option maxRecDepth 100000 in
theorem spec_l09Add.calls (a0_0 : Int) (a0_1 : Int) (a0_2 : Int) (a1_0 : Int) (a1_1 : Int) (a1_2 : Int) (r1 : Int) (r2 : Int) (r3 : Int) (w : World) (h : spec_l09Add.f a0_0 a0_1 a0_2 a1_0 a1_1 a1_2 = some (r1, r2, r3)) :
    Calls Try.prog 96 #[.agg #[.int .i64 a0_0, .int .i64 a0_1, .int .i64 a0_2], .agg #[.int .i64 a1_0, .int .i64 a1_1, .int .i64 a1_2]] w fun e w' => e = .returned (.agg #[.int .i64 r1, .int .i64 r2, .int .i64 r3]) ∧ Below w.heap.size w w' := by
 (have hu69 := Try.underlying69); (have HB := A0_ (Below.refl w.heap.size w)); (have H : (some (wrap64 (a0_0 + a1_0), wrap64 (a0_1 + a1_1), wrap64 (a0_2 + a1_2))) = some (r1, r2, r3) := h); clear h; (simp only [Option.some.injEq, Prod.mk.injEq] at H); (obtain ⟨rfl, rfl, rfl⟩ := H); (go_enter Try.func96, Try.ntmps96); (go_wp2_with (first | ((with_reducible refine gate_dst (N := 2) rfl ?_); refine be_ (N := 2) (cs := #[.int .i64 a0_0, .int .i64 a0_1, .int .i64 a0_2]) (t := 69) ?_; intro gb119 hg w3 hbox hb; have n0_ := A0_ (below_step bw_ hb); have n1_ := A0_ (hbox); have n2_ := A0_ ((by rw [hg]; exact (below_size bw_) : w.heap.size ≤ gb119)); have n3_ := A0_ ((by rw [hg]; exact (below_size bw_) : w.heap.size ≤ gb119)); clear HB; have HB := n0_; have BK119 := n1_; have GW119 := n2_; have GE119 := n3_; clear n0_ n1_ n2_ n3_; clear hb hbox hg) | ((with_reducible refine gate_dst (N := 3) rfl ?_); refine be_ (N := 3) (cs := #[.int .i64 a1_0, .int .i64 a1_1, .int .i64 a1_2]) (t := 69) ?_; intro gb120 hg w4 hbox hb; have n0_ := A0_ (blk_below (g := gb119) (o := .cells #[.int .i64 a0_0, .int .i64 a0_1, .int .i64 a0_2] 69 (0, 0)) (bk_ BK119) hb); have n1_ := A0_ (below_step bx_ hb); have n2_ := A0_ (hbox); have n3_ := A0_ ((by rw [hg]; exact (below_size bx_) : w.heap.size ≤ gb120)); have n4_ := A0_ ((by rw [hg]; exact (below_size bx_) : w.heap.size ≤ gb120)); have n5_ := A0_ ((by rw [hg]; exact Nat.ne_of_lt (blk_lt (g := gb119) (o := .cells #[.int .i64 a0_0, .int .i64 a0_1, .int .i64 a0_2] 69 (0, 0)) (bk_ BK119)) : gb119 ≠ gb120)); have n6_ := A0_ ((by rw [hg]; exact Nat.ne_of_gt (blk_lt (g := gb119) (o := .cells #[.int .i64 a0_0, .int .i64 a0_1, .int .i64 a0_2] 69 (0, 0)) (bk_ BK119)) : gb120 ≠ gb119)); clear BK119; clear HB; have BK119 := n0_; have HB := n1_; have BK120 := n2_; have GW120 := n3_; have GE120 := n4_; have NB119_120 := n5_; have NB120_119 := n6_; clear n0_ n1_ n2_ n3_ n4_ n5_ n6_; clear hb hbox hg) | ((with_reducible refine gate_dst (N := 4) rfl ?_); refine be_ (N := 4) (cs := #[.int .i64 0, .int .i64 0, .int .i64 0]) (t := 69) ?_; intro gb121 hg w5 hbox hb; have n0_ := A0_ (blk_below (g := gb119) (o := .cells #[.int .i64 a0_0, .int .i64 a0_1, .int .i64 a0_2] 69 (0, 0)) (bk_ BK119) hb); have n1_ := A0_ (blk_below (g := gb120) (o := .cells #[.int .i64 a1_0, .int .i64 a1_1, .int .i64 a1_2] 69 (0, 0)) (bk_ BK120) hb); have n2_ := A0_ (below_step bx_ hb); have n3_ := A0_ (hbox); have n4_ := A0_ ((by rw [hg]; exact (below_size bx_) : w.heap.size ≤ gb121)); have n5_ := A0_ ((by rw [hg]; exact (below_size bx_) : w.heap.size ≤ gb121)); have n6_ := A0_ ((by rw [hg]; exact Nat.ne_of_lt (blk_lt (g := gb119) (o := .cells #[.int .i64 a0_0, .int .i64 a0_1, .int .i64 a0_2] 69 (0, 0)) (bk_ BK119)) : gb119 ≠ gb121)); have n7_ := A0_ ((by rw [hg]; exact Nat.ne_of_gt (blk_lt (g := gb119) (o := .cells #[.int .i64 a0_0, .int .i64 a0_1, .int .i64 a0_2] 69 (0, 0)) (bk_ BK119)) : gb121 ≠ gb119)); have n8_ := A0_ ((by rw [hg]; exact Nat.ne_of_lt (blk_lt (g := gb120) (o := .cells #[.int .i64 a1_0, .int .i64 a1_1, .int .i64 a1_2] 69 (0, 0)) (bk_ BK120)) : gb120 ≠ gb121)); have n9_ := A0_ ((by rw [hg]; exact Nat.ne_of_gt (blk_lt (g := gb120) (o := .cells #[.int .i64 a1_0, .int .i64 a1_1, .int .i64 a1_2] 69 (0, 0)) (bk_ BK120)) : gb121 ≠ gb120)); clear BK119; clear BK120; clear HB; have BK119 := n0_; have BK120 := n1_; have HB := n2_; have BK121 := n3_; have GW121 := n4_; have GE121 := n5_; have NB119_121 := n6_; have NB121_119 := n7_; have NB120_121 := n8_; have NB121_120 := n9_; clear n0_ n1_ n2_ n3_ n4_ n5_ n6_ n7_ n8_ n9_; clear hb hbox hg; have hnb6 := NB119_120.out; have hnc6 := NB120_119.out; have hnb7 := NB119_121.out; have hnc7 := NB121_119.out; have hcz8_0 : w5.cell? ⟨gb119, 0, none⟩ = some (.int .i64 a0_0) := (blk_cell BK119.out 0).trans rfl; have hcz8_1 : w5.cell? ⟨gb119, 1, none⟩ = some (.int .i64 a0_1) := (blk_cell BK119.out 1).trans rfl; have hcz8_2 : w5.cell? ⟨gb119, 2, none⟩ = some (.int .i64 a0_2) := (blk_cell BK119.out 2).trans rfl; have hfz8_0 := blk_frozen BK119.out 0; have hfz8_1 := blk_frozen BK119.out 1; have hfz8_2 := blk_frozen BK119.out 2; have hnb9 := NB120_121.out; have hnc9 := NB121_120.out; have hcz10_0 : w5.cell? ⟨gb120, 0, none⟩ = some (.int .i64 a1_0) := (blk_cell BK120.out 0).trans rfl; have hcz10_1 : w5.cell? ⟨gb120, 1, none⟩ = some (.int .i64 a1_1) := (blk_cell BK120.out 1).trans rfl; have hcz10_2 : w5.cell? ⟨gb120, 2, none⟩ = some (.int .i64 a1_2) := (blk_cell BK120.out 2).trans rfl; have hfz10_0 := blk_frozen BK120.out 0; have hfz10_1 := blk_frozen BK120.out 1; have hfz10_2 := blk_frozen BK120.out 2; have hcz11_0 : w5.cell? ⟨gb121, 0, none⟩ = some (.int .i64 0) := (blk_cell BK121.out 0).trans rfl; have hcz11_1 : w5.cell? ⟨gb121, 1, none⟩ = some (.int .i64 0) := (blk_cell BK121.out 1).trans rfl; have hcz11_2 : w5.cell? ⟨gb121, 2, none⟩ = some (.int .i64 0) := (blk_cell BK121.out 2).trans rfl; have hfz11_0 := blk_frozen BK121.out 0; have hfz11_1 := blk_frozen BK121.out 1; have hfz11_2 := blk_frozen BK121.out 2))); (refine bodyPost_ret (results_cell_row rfl _ _ gb121 69 #[.int .i64 (wrap64 (a0_0 + a1_0)), .int .i64 (wrap64 (a0_1 + a1_1)), .int .i64 (wrap64 (a0_2 + a1_2))] (0, 0) _ rfl (by (with_reducible repeat (first | apply gn_ | apply gd_ | apply ga_)); refine blk_put (cs := #[.int .i64 (wrap64 (a0_0 + a1_0)), .int .i64 (wrap64 (a0_1 + a1_1)), .int .i64 0]) ?_ 2 _ rfl; (with_reducible repeat (first | apply gn_ | apply gd_ | apply ga_)); refine blk_put (cs := #[.int .i64 (wrap64 (a0_0 + a1_0)), .int .i64 0, .int .i64 0]) ?_ 1 _ rfl; (with_reducible repeat (first | apply gn_ | apply gd_ | apply ga_)); refine blk_put (cs := #[.int .i64 0, .int .i64 0, .int .i64 0]) ?_ 0 _ rfl; (with_reducible repeat (first | apply gn_ | apply gd_ | apply ga_)); exact BK121.out) Try.underlying69 rfl (by kernel_rfl)) rfl ?_); (exact ⟨er_, bx_⟩)
end
section
attribute [local go_sem] max2_int min2_int max_two min_two max_three min_three max_four min_four
def spec_l09Move.l0 : Nat → List (S69) → List (S69) → Int → Int → Int → Int → Option ((List (S69)))
  | 0, _, _, _, _, _, _ => none
  | k + 1, x0, x5, x6, x152000, x152001, x152002 => if x6 < (x0.length : Int) then (if 0 ≤ x6 then ((spec_l09Add.f ((rd_T69 x0 x6).f0) ((rd_T69 x0 x6).f1) ((rd_T69 x0 x6).f2) x152000 x152001 x152002).bind fun bt156 => (if x5.length < 5864062014805 then (spec_l09Move.l0 k x0 (x5 ++ [(⟨bt156.1, bt156.2.1, bt156.2.2⟩ : S69)]) (wrap64 (x6 + 1)) x152000 x152001 x152002) else (none))) else (none)) else (some x5)
def spec_l09Move.f (k : Nat) (l0 : List (S69)) (a1_0 : Int) (a1_1 : Int) (a1_2 : Int) : Option ((List (S69))) := spec_l09Move.l0 k l0 (([] : List (S69))) 0 a1_0 a1_1 a1_2
def spec_l09Move.T5 : Bool × List (List Nat × List Nat) := (true, [([], []), ([], []), ([], []), ([1, 2], [1, 2]), ([3], [3]), ([], []), ([4, 5], [4, 5]), ([6], [6]), ([0, 7, 6], [0, 7]), ([8, 8, 0, 1, 2, 3, 4, 5, 6, 7, 8], [0, 8])])
def spec_l09Move.B5 : List Nat := [0, 0, 0, 6, 14, 0, 62, 126, 255, 511]
theorem spec_l09Move.tab5 : rtab .any (opsOf Try.f71 5) = spec_l09Move.T5 := by kernel_rfl
theorem spec_l09Move.bits5 : waitsOk spec_l09Move.T5.2 spec_l09Move.B5 = true := by kernel_rfl
set_option maxHeartbeats 8000000 in
set_option maxRecDepth 100000 in
theorem spec_l09Move.calls (k : Nat) (A0 : Option Addr) (c0 : Nat) (l0 : List (S69)) (a1_0 : Int) (a1_1 : Int) (a1_2 : Int) (r : List (S69)) (w : World) (hr0 : Kd.C k69 w A0 l0.length l0) (hc0 : l0.length ≤ c0) (h : spec_l09Move.f k l0 a1_0 a1_1 a1_2 = some r) :
    Calls Try.prog 71 #[.slice A0 l0.length c0, .agg #[.int .i64 a1_0, .int .i64 a1_1, .int .i64 a1_2]] w fun e w' => ∃ v0_ : Value, e = .returned (v0_) ∧ Kd.R k69 69 w' w.heap.size (fun _ => True) v0_ r ∧ Below w.heap.size w w' := by
 (have hu69 := Try.underlying69); (have HR0 := A0_ hr0); (have HC0 := A0_ hc0); clear hr0 hc0; (have HB := A0_ (Below.refl w.heap.size w)); (have H : (spec_l09Move.l0 k l0 (([] : List (S69))) 0 a1_0 a1_1 a1_2) = some r := h); clear h; (obtain ⟨y152, hy152⟩ : ∃ y_ : List (S69), y_ = (([] : List (S69))) := ⟨_, rfl⟩); (replace H : (spec_l09Move.l0 k l0 y152 0 a1_0 a1_1 a1_2) = some r := by first | (rw [hy152]; with_reducible exact H) | (have H2_ := (Option.bind_some _ _).symm.trans H; rw [hy152]; with_reducible exact H2_) | (have H2_ := (Option.bind_some _ _).symm.trans H; with_reducible exact H2_) | with_reducible exact H | (rw [hy152]; exact H) | exact H); (have Ny152 := A0_ hy152); clear hy152; (have H' := A0_ H); clear H; (go_enter Try.func71, Try.ntmps71)
 go_wp2_with (first | ((with_reducible refine gate_dst (N := 3) rfl ?_); refine be_ (N := 3) (cs := #[.int .i64 a1_0, .int .i64 a1_1, .int .i64 a1_2]) (t := 69) ?_; intro gb151 hg w3 hbox hb; have n0_ := A0_ (below_step bw_ hb); have n1_ := A0_ (hbox); have n2_ := A0_ ((by rw [hg]; exact (below_size bw_) : w.heap.size ≤ gb151)); have n3_ := A0_ ((by rw [hg]; exact (below_size bw_) : w.heap.size ≤ gb151)); clear HB; have HB := n0_; have BK151 := n1_; have GW151 := n2_; have GE151 := n3_; clear n0_ n1_ n2_ n3_; clear hb hbox hg) | ((with_reducible refine gate_dst (N := 7) rfl ?_); refine Kd.R_lit k69 _ 69 ?hg (N := 7) ?hd (xs := ([] : List (S69))) (inner := []) (ok := fun _ => True) (okp := fun _ => True) ?hr ?hp (fun _ hk => hk) trivial (Below.refl _ _) (Nat.le_refl _) (by simp) ?_; (case hd => rfl); (case hg => rfl); (case hr => first | (go_simp; done) | (go_simp; rfl)); (case hp => exact (Reps.none _ _)); intro v153 w4 ho5 hb hg_ hnew_; clear hg_ hnew_; (first | rw [← Ny152.out] at ho5 | (simp only [Int.reduceToNat] at ho5; rw [← Ny152.out] at ho5)); have n0_ := A0_ (Kd.R_lower (Kd.R_newB ho5 (g := gb151) (o := .cells #[.int .i64 a1_0, .int .i64 a1_1, .int .i64 a1_2] 69 (0, 0)) (bk_ BK151)) (below_size bx_)); have n1_ := A0_ (blk_below (g := gb151) (o := .cells #[.int .i64 a1_0, .int .i64 a1_1, .int .i64 a1_2] 69 (0, 0)) (bk_ BK151) hb); have n2_ := A0_ (below_step bx_ hb); clear BK151; clear HB; have HO154 := n0_; have BK151 := n1_; have HB := n2_; clear n0_ n1_ n2_; clear hb ho5))
 go_loopg [5, 6] k (fun kq v5 v6 w' => ∃ (x5_1 : List (S69)) (x6_1 : Int), v6 = .int .i64 x6_1 ∧ Aside0 (spec_l09Move.l0 kq l0 x5_1 x6_1 a1_0 a1_1 a1_2 = some r) ∧ Aside0 (kq ≤ k) ∧ Aside0 (Kd.R k69 69 w' w.heap.size (fun k_ => k_ ≠ gb151) v5 x5_1) ∧ Aside0 (w'.heap[gb151]? = some (.cells #[.int .i64 a1_0, .int .i64 a1_1, .int .i64 a1_2] 69 (0, 0))) ∧ Aside0 (Below w.heap.size w w'))
 case atStart => exact ⟨(y152), (0), (by first | rfl | (simp; done) | (simp [*]; done)), H', ⟨Nat.le_refl _⟩, ⟨by (with_reducible repeat (first | apply Ra_ | apply Rn_ | apply Rd_)); exact Kd.R_mono HO154.out (fun _ hk => hk.2)⟩, ⟨by (with_reducible repeat (first | apply gn_ | apply gd_ | apply ga_)); exact BK151.out⟩, ⟨by repeat (first | (with_reducible first | exact HB.out | apply ba_ | apply bn_ | apply bd_ | refine below_set ?_ GE151.out) | exact HB.out)⟩⟩
 case round =>
  clear H'; (try clear p2); (obtain ⟨x5_1, x6_1, rfl, HA, HK1, HO_5, BK151, HB⟩ := hrel)
  cases gk with
  | zero => exact absurd HA.out (by simp [spec_l09Move.l0])
  | succ k1 =>
   (have H := HA.out); clear HA; (simp only [spec_l09Move.l0] at H); (by_cases c6 : x6_1 < (l0.length : Int))
   ·(rw [if_pos c6] at H); (have c6b0 : decide (x6_1 < (l0.length : Int)) = true := decide_eq_true c6); clear c6; (by_cases c7 : 0 ≤ x6_1)
    ·(rw [if_pos c7] at H); (have c7b0 : decide (0 ≤ x6_1) = true := decide_eq_true c7); clear c7; (replace H := Option.bind_eq_some_iff.mp H); (obtain ⟨⟨t156, t157, t158⟩, A80, H⟩ := H); (try dsimp only at H); (have A8 := A0_ A80); clear A80; (by_cases c9 : x5_1.length < 5864062014805)
     ·(rw [if_pos c9] at H); (have LMc9 := A0_ c9); clear c9; (obtain ⟨y159, hy159⟩ : ∃ y_ : List (S69), y_ = (x5_1 ++ [(⟨t156, t157, t158⟩ : S69)]) := ⟨_, rfl⟩); (replace H : (spec_l09Move.l0 k1 l0 y159 (wrap64 (x6_1 + 1)) a1_0 a1_1 a1_2) = some r := by first | (rw [hy159]; with_reducible exact H) | (have H2_ := (Option.bind_some _ _).symm.trans H; rw [hy159]; with_reducible exact H2_) | (have H2_ := (Option.bind_some _ _).symm.trans H; with_reducible exact H2_) | with_reducible exact H | (rw [hy159]; exact H) | exact H); (have Ny159 := A0_ hy159); clear hy159; (have H' := A0_ H); clear H; (try go_wp2); (have n0_ := A0_ (Kd.R_drew HO_5.out)); (have n1_ := A0_ (blk_drew BK151.out)); (have n2_ := A0_ (below_drew1 HB.out)); clear HO_5; clear BK151; clear HB; (have HO_5 := n0_); (have BK151 := n1_); (have HB := n2_); clear n0_ n1_ n2_; (have p155 : 0 ≤ (x6_1 : Int) := of_decide_eq_true as_); (have q155 : x6_1 < (l0.length : Int) := of_decide_eq_true as_); (obtain ⟨ad155, e155, hx155_0, hx155_1, hx155_2⟩ := at_T69 HR0.out x6_1 p155 q155); (have hw155_2 := hx155_2); (have hw155_1 := hx155_1); (have hw155_0 := hx155_0); (cases e155); (replace hx155_0 := (HB.out.cell (World.block_lt_of_cell? w _ hx155_0)).trans hx155_0); (replace hx155_1 := (HB.out.cell (World.block_lt_of_cell? w _ hx155_1)).trans hx155_1); (replace hx155_2 := (HB.out.cell (World.block_lt_of_cell? w _ hx155_2)).trans hx155_2); (replace p155 := eq_true p155); (replace q155 := eq_true q155)
      refine start_ (n := 10) (S := fun w' => w'.cell? ⟨gb151, 0, none⟩ = some (.int .i64 a1_0) ∧ w'.cell? ⟨gb151, 1, none⟩ = some (.int .i64 a1_1) ∧ w'.cell? ⟨gb151, 2, none⟩ = some (.int .i64 a1_2) ∧ w'.cell? (ad155.add ((x6_1).toNat * 3)) = some (.int .i64 ((rd_T69 l0 x6_1).f0)) ∧ w'.cell? ⟨(ad155.add ((x6_1).toNat * 3)).block, (ad155.add ((x6_1).toNat * 3)).off + 1, none⟩ = some (.int .i64 ((rd_T69 l0 x6_1).f1)) ∧ w'.cell? ⟨(ad155.add ((x6_1).toNat * 3)).block, (ad155.add ((x6_1).toNat * 3)).off + 2, none⟩ = some (.int .i64 ((rd_T69 l0 x6_1).f2))) (ds := []) #[ff,ff,ff,ff,ff,ff,ff,ff,ff,ff] (by kernel_rfl) rfl rfl ⟨(blk_cell BK151.out 0).trans rfl, (blk_cell BK151.out 1).trans rfl, (blk_cell BK151.out 2).trans rfl, ((HB.out.cell (World.block_lt_of_cell? w _ hw155_0)).trans hw155_0), ((HB.out.cell (World.block_lt_of_cell? w _ hw155_1)).trans hw155_1), ((HB.out.cell (World.block_lt_of_cell? w _ hw155_2)).trans hw155_2)⟩ (fun hHeld => ?_); refine with_tabW spec_l09Move.tab5 spec_l09Move.bits5 (fun HT_ HW_ => ?_)
      (generalize wr.drew = w10 at HO_5 BK151 HB hx155_0 hx155_1 hx155_2 hHeld ⊢); (refine on_ 0 (some 14) ?_); (refine on_ 1 (some 15) ?_); (refine on_ 2 (some 16) ?_); (refine on_ 3 (some 17) ?_); (refine tk_ 4 (some 18) ?_); (refine tk_ 5 (some 19) ?_)
      refine o1_ 6 (some 20) (fun K hK => ?_)
      (refine gs_ Try.func96 #[.agg #[.int .i64 ((rd_T69 l0 x6_1).f0), .int .i64 ((rd_T69 l0 x6_1).f1), .int .i64 ((rd_T69 l0 x6_1).f2)], .agg #[.int .i64 a1_0, .int .i64 a1_1, .int .i64 a1_2]] ?_); (with_reducible refine (spec_l09Add.calls ((rd_T69 l0 x6_1).f0) ((rd_T69 l0 x6_1).f1) ((rd_T69 l0 x6_1).f2) a1_0 a1_1 a1_2 t156 t157 t158 _ A8.out).mono ?_); (rintro e w11 ⟨rfl, hb⟩); (refine ⟨_, rfl, ?_⟩); (have n0_ := A0_ (Kd.R_below (by (with_reducible repeat (first | apply Ra_ | apply Rn_ | apply Rd_)); exact HO_5.out) hb)); (have n1_ := A0_ (blk_below (g := gb151) (o := .cells #[.int .i64 a1_0, .int .i64 a1_1, .int .i64 a1_2] 69 (0, 0)) (bk_ BK151) hb)); (have n2_ := A0_ (below_step bx_ hb)); clear HO_5; clear BK151; clear HB; (have HO_5 := n0_); (have BK151 := n1_); (have HB := n2_); clear n0_ n1_ n2_; ((try clear hb)); ((try clear hb2)); ((try clear hk)); ((try clear hi))
      refine hK.out _ _ ⟨(blk_cell BK151.out 0).trans rfl, (blk_cell BK151.out 1).trans rfl, (blk_cell BK151.out 2).trans rfl, ((HB.out.cell (World.block_lt_of_cell? w _ hw155_0)).trans hw155_0), ((HB.out.cell (World.block_lt_of_cell? w _ hw155_1)).trans hw155_1), ((HB.out.cell (World.block_lt_of_cell? w _ hw155_2)).trans hw155_2)⟩ (fun hHeld => ?_)
      clear hK K; (refine nm_ (some 20) ?_)
      refine o1_ 7 (some 21) (fun K hK => ?_)
      (refine value_ (w1 := ?_) (v := ?_) (by rfl) rfl ?_ ?_); (rotate_left 2)
      ·go_simp; (constructor)
       ·rfl
       ·rfl
      refine hK.out _ _ ⟨(blk_cell (blk_alloc BK151.out _) 0).trans rfl, (blk_cell (blk_alloc BK151.out _) 1).trans rfl, (blk_cell (blk_alloc BK151.out _) 2).trans rfl, (World.cell?_alloc_lt _ _ _ (World.block_lt_of_cell? _ _ (((HB.out.cell (World.block_lt_of_cell? w _ hw155_0)).trans hw155_0)))).trans (((HB.out.cell (World.block_lt_of_cell? w _ hw155_0)).trans hw155_0)), (World.cell?_alloc_lt _ _ _ (World.block_lt_of_cell? _ _ (((HB.out.cell (World.block_lt_of_cell? w _ hw155_1)).trans hw155_1)))).trans (((HB.out.cell (World.block_lt_of_cell? w _ hw155_1)).trans hw155_1)), (World.cell?_alloc_lt _ _ _ (World.block_lt_of_cell? _ _ (((HB.out.cell (World.block_lt_of_cell? w _ hw155_2)).trans hw155_2)))).trans (((HB.out.cell (World.block_lt_of_cell? w _ hw155_2)).trans hw155_2))⟩ (fun hHeld => ?_)
      clear hK K; (refine nm_ (some 21) ?_)
      refine o1_ 8 (some 22) (fun K hK => ?_)
      refine Kd.R_append_step k69 (w0 := w) w.heap.size (by rfl) (.tmp 14) (.tmp 21) 34 69 (.agg #[(.int .i64 0), (.int .i64 0), (.int .i64 0)]) 24 rfl Try.underlying34 info69 rfl (by decide) (by omega) u5 x5_1 (⟨t156, t157, t158⟩ : S69) [.int .i64 t156, .int .i64 t157, .int .i64 t158] (fun k_ => k_ ≠ gb151) (fun _ => False) rfl rfl ?aP (fun _ hk => hk.elim) ?aF ?aO ?aB ?aS ?aL ?_
      ((case aP => exact k69_mkM _ _ _ (⟨t156, t157, t158⟩ : S69))); ((case aB => exact bx_))
      (case aF => exact (fun k_ hk => Kd.freshB (g := gb151) (o := .cells #[.int .i64 a1_0, .int .i64 a1_1, .int .i64 a1_2] 69 (0, 0)) (bk_ BK151) k_ hk))
      ((case aO => exact (by (with_reducible repeat (first | apply Ra_ | apply Rn_ | apply Rd_)); exact HO_5.out))); ((case aS => exact (below_size bx_))); ((case aL => have := LMc9.out; omega)); intro v160 w12 ho hb hg hat; (rw [← Ny159.out] at ho)
      have n0_ := A0_ (blk_grown (g := gb151) (o := .cells #[.int .i64 a1_0, .int .i64 a1_1, .int .i64 a1_2] 69 (0, 0)) (bk_ BK151) hg (Kd.R_away HO_5.out (fun _ hk => hk)))
      (have n1_ := A0_ (hb)); (have n2_ := A0_ (ho)); clear BK151; clear HB; clear HO_5; (have BK151 := n0_); (have HB := n1_); (have HO161 := n2_); clear n0_ n1_ n2_; clear ho hb hg hat
      refine hK.out _ _ ⟨(blk_cell BK151.out 0).trans rfl, (blk_cell BK151.out 1).trans rfl, (blk_cell BK151.out 2).trans rfl, ((HB.out.cell (World.block_lt_of_cell? w _ hw155_0)).trans hw155_0), ((HB.out.cell (World.block_lt_of_cell? w _ hw155_1)).trans hw155_1), ((HB.out.cell (World.block_lt_of_cell? w _ hw155_2)).trans hw155_2)⟩ (fun hHeld => ?_)
      clear hK K; (refine nm_ (some 22) ?_); (refine on_ 9 (some 5) ?_); (refine dn_ ?_); (try go_wp2); (go_roundg k1)
      case measure => have := HK1.out; omega
      case rel => exact ⟨(y159), (wrap64 (x6_1 + 1)), (by first | rfl | (simp; done) | (simp [*]; done)), H', ⟨by have := HK1.out; omega⟩, ⟨by (with_reducible repeat (first | apply Ra_ | apply Rn_ | apply Rd_)); exact HO161.out⟩, ⟨by (with_reducible repeat (first | apply gn_ | apply gd_ | apply ga_)); exact BK151.out⟩, ⟨by repeat (first | (with_reducible first | exact HB.out | apply ba_ | apply bn_ | apply bd_ | refine below_set ?_ GE151.out) | exact HB.out)⟩⟩
     ·(rw [if_neg c9] at H); (exact absurd H (by simp))
    ·(rw [if_neg c7] at H); (exact absurd H (by simp))
   ·(rw [if_neg c6] at H); (have c6b0 : decide (x6_1 < (l0.length : Int)) = false := decide_eq_false c6); clear c6; (obtain rfl := Option.some.inj H); go_wp2; go_ret
    exact ⟨_, by first | rfl | (simp [errW_none, errW_some] <;> rfl) | (simp [*, errW_none, errW_some] <;> rfl), by (with_reducible repeat (first | apply Ra_ | apply Rn_ | apply Rd_)); exact Kd.R_mono HO_5.out (fun _ hk => trivial), by repeat (first | (with_reducible first | exact HB.out | apply ba_ | apply bn_ | apply bd_ | refine below_set ?_ GE151.out) | exact HB.out)⟩
end
section
attribute [local go_sem] max2_int min2_int max_two min_two max_three min_three max_four min_four
def spec_l27Meet.l0 : Nat → List (S69) → List (S69) → Int → Option (Bool)
  | 0, _, _, _ => none
  | k + 1, x0, x1, x5 => if x5 < (x0.length : Int) then (if 0 ≤ x5 then ((spec_l09Index.f k x1 ((rd_T69 x0 x5).f0) ((rd_T69 x0 x5).f1) ((rd_T69 x0 x5).f2)).bind fun t134 => (if t134 ≥ 0 then (some true) else (spec_l27Meet.l0 k x0 x1 (wrap64 (x5 + 1))))) else (none)) else (some false)
def spec_l27Meet.f (k : Nat) (l0 : List (S69)) (l1 : List (S69)) : Option (Bool) := spec_l27Meet.l0 k l0 l1 0
set_option maxHeartbeats 8000000 in
set_option maxRecDepth 100000 in
theorem spec_l27Meet.calls (k : Nat) (A0 : Option Addr) (c0 : Nat) (l0 : List (S69)) (A1 : Option Addr) (c1 : Nat) (l1 : List (S69)) (r : Bool) (w : World) (hr0 : Kd.C k69 w A0 l0.length l0) (hc0 : l0.length ≤ c0) (hr1 : Kd.C k69 w A1 l1.length l1) (hc1 : l1.length ≤ c1) (h : spec_l27Meet.f k l0 l1 = some r) :
    Calls Try.prog 78 #[.slice A0 l0.length c0, .slice A1 l1.length c1] w fun e w' => e = .returned (.bool r) ∧ Below w.heap.size w w' := by
 (have hu69 := Try.underlying69); (have HR0 := A0_ hr0); (have HC0 := A0_ hc0); clear hr0 hc0; (have HR1 := A0_ hr1); (have HC1 := A0_ hc1); clear hr1 hc1; (have HB := A0_ (Below.refl w.heap.size w)); (have H : (spec_l27Meet.l0 k l0 l1 0) = some r := h); clear h; (have H' := A0_ H); clear H; (go_enter Try.func78, Try.ntmps78); go_wp2
 go_loopg [5] k (fun kq v5 w' => ∃ (x5_1 : Int), v5 = .int .i64 x5_1 ∧ Aside0 (spec_l27Meet.l0 kq l0 l1 x5_1 = some r) ∧ Aside0 (kq ≤ k) ∧ Aside0 (Below w.heap.size w w'))
 case atStart => exact ⟨(0), (by first | rfl | (simp; done) | (simp [*]; done)), H', ⟨Nat.le_refl _⟩, ⟨by repeat (first | (with_reducible first | exact HB.out | apply ba_ | apply bn_ | apply bd_) | exact HB.out)⟩⟩
 case round =>
  clear H'; (try clear c1); (try clear p2); (obtain ⟨x5_1, rfl, HA, HK1, HB⟩ := hrel)
  cases gk with
  | zero => exact absurd HA.out (by simp [spec_l27Meet.l0])
  | succ k1 =>
   (have H := HA.out); clear HA; (simp only [spec_l27Meet.l0] at H); (by_cases c3 : x5_1 < (l0.length : Int))
   ·(rw [if_pos c3] at H); (have c3b0 : decide (x5_1 < (l0.length : Int)) = true := decide_eq_true c3); clear c3; (by_cases c4 : 0 ≤ x5_1)
    ·(rw [if_pos c4] at H); (have c4b0 : decide (0 ≤ x5_1) = true := decide_eq_true c4); clear c4; (replace H := Option.bind_eq_some_iff.mp H); (obtain ⟨t134, A50, H⟩ := H); (try dsimp only at H); (have A5 := A0_ A50); clear A50; (have H0_ := A0_ H); clear H; (have p133 : 0 ≤ (x5_1 : Int) := of_decide_eq_true as_); (have q133 : x5_1 < (l0.length : Int) := of_decide_eq_true as_); (obtain ⟨ad133, e133, hx133_0, hx133_1, hx133_2⟩ := at_T69 HR0.out x5_1 p133 q133); (cases e133); (replace hx133_0 := (HB.out.cell (World.block_lt_of_cell? w _ hx133_0)).trans hx133_0); (replace hx133_1 := (HB.out.cell (World.block_lt_of_cell? w _ hx133_1)).trans hx133_1); (replace hx133_2 := (HB.out.cell (World.block_lt_of_cell? w _ hx133_2)).trans hx133_2); (replace p133 := eq_true p133); (replace q133 := eq_true q133); (go_wp2_with (first | ((with_reducible refine gate_callee (f := 102) rfl ?_); refine goesL_ (some 17) rfl rfl Try.func102 (by kernel_rfl) rfl #[.slice A1 l1.length c1, .agg #[.int .i64 ((rd_T69 l0 x5_1).f0), .int .i64 ((rd_T69 l0 x5_1).f1), .int .i64 ((rd_T69 l0 x5_1).f2)]] rfl (by (try simp only [List.map_toArray, List.map_cons, List.map_nil]); first | done | rfl | (simp only [List.length_drop, List.length_take]; rfl)) ?_; (with_reducible refine (spec_l09Index.calls k1 _ _ l1 ((rd_T69 l0 x5_1).f0) ((rd_T69 l0 x5_1).f1) ((rd_T69 l0 x5_1).f2) t134 _ ?side1 ?side2 A5.out).mono ?_); (case side1 => repeat (first | exact (Kd.C_below HR1.out HB.out) | (with_reducible refine Kd.C_alloc ?_ _) | (with_reducible refine Kd.C_drewN ?_ _) | (with_reducible refine Kd.C_drew ?_))); (case side2 => exact HC1.out); rintro e w6 ⟨rfl, hb⟩; refine ⟨_, rfl, ?_⟩; replace HB := A0_ (below_step bw_ hb); (try clear hb); (try clear hb2); (try clear hk); (try clear hi); refine Stop0.out ?_))); (refine Stop0.mk ?_); (have H := H0_.out); clear H0_; (by_cases c7 : t134 ≥ 0)
     ·(rw [if_pos c7] at H); (have c7b0 : decide (0 ≤ t134) = true := decide_eq_true c7); clear c7; (obtain rfl := Option.some.inj H); go_wp2; go_ret; (exact ⟨er_, bx_⟩)
     ·(rw [if_neg c7] at H); (have c7b0 : decide (0 ≤ t134) = false := decide_eq_false c7); clear c7; (have H' := A0_ H); clear H; go_wp2; (go_roundg k1)
      case measure => have := HK1.out; omega
      case rel => exact ⟨(wrap64 (x5_1 + 1)), (by first | rfl | (simp; done) | (simp [*]; done)), H', ⟨by have := HK1.out; omega⟩, ⟨by repeat (first | (with_reducible first | exact HB.out | apply ba_ | apply bn_ | apply bd_) | exact HB.out)⟩⟩
    ·(rw [if_neg c4] at H); (exact absurd H (by simp))
   ·(rw [if_neg c3] at H); (have c3b0 : decide (x5_1 < (l0.length : Int)) = false := decide_eq_false c3); clear c3; (obtain rfl := Option.some.inj H); go_wp2; go_ret; (exact ⟨er_, bx_⟩)
end
theorem sindex_ev (l : List Cb) (x : Cb) (h : l.length ≤ 1048576) : ∃ r : Int, decide (r ≥ 0) = l.contains x ∧ Ev (fun k => spec_l09Index.f k l x.f0 x.f1 x.f2) r := by
 unfold spec_l09Index.f
 refine ev_inv0 l.length (fun (_ : Unit) j => ∀ i (hi : i < j) (hl : i < l.length), l[i] ≠ x) (fun r : Int => decide (r ≥ 0) = l.contains x) (fun _ i k => spec_l09Index.l0 k l i x.f0 x.f1 x.f2) (fun s hi => ?_) (fun s j hj hi => ?_) () (fun i hi => by omega)
 ·refine ⟨-1, ?_, Ev.step (f := fun _ => some (-1)) (fun k => by simp only [spec_l09Index.l0]; rw [if_neg (by omega)]) (Ev.now _)⟩
  have hn : ¬ l.contains x = true := fun hc => by
   rw [List.contains_iff_mem, List.mem_iff_getElem] at hc
   obtain ⟨i, hl, e⟩ := hc
   exact hi i hl hl e
  rw [Bool.eq_false_iff.mpr hn]
  rfl
 ·have hg : rd_T69 l (j : Int) = l[j] := by unfold rd_T69; exact getD_nat l _ j hj
  have e3 : (l[j].f0 == x.f0 && (l[j].f1 == x.f1 && l[j].f2 == x.f2)) = decide (l[j] = x) := eq_cb l[j] x
  have hw := wrap_succ j (show j < 9223372036854775807 by omega)
  by_cases c : l[j] = x
  ·refine .inl ⟨(j : Int), ?_, Ev.step (f := fun _ => some (j : Int)) (fun k => ?_) (Ev.now _)⟩
   ·have : l.contains x = true := by rw [← c, List.contains_iff_mem]; exact List.getElem_mem hj
    rw [this]
    exact decide_eq_true (by omega)
   ·simp only [spec_l09Index.l0, hg, e3, show (j : Int) < (l.length : Int) from by omega, show (0 : Int) ≤ (j : Int) from by omega, if_true, decide_eq_true_eq]
    rw [if_pos c]
  ·refine .inr ⟨(), fun i hi2 hl => ?_, fun r h2 => Ev.succ ?_⟩
   ·by_cases e : i = j
    ·subst e; exact c
    ·exact hi i (by omega) hl
   ·simp only [spec_l09Index.l0, hg, e3, show (j : Int) < (l.length : Int) from by omega, show (0 : Int) ≤ (j : Int) from by omega, if_true, decide_eq_true_eq]
    simp only [c, if_false, hw]
    exact h2
theorem smove_ev (l : List Cb) (d : Cb) (h : l.length ≤ 1048576) : Ev (fun k => spec_l09Move.f k l d.f0 d.f1 d.f2) (l.map fun c => addC c d) := by
 obtain ⟨r, hr, hk⟩ : ∃ r, r = (l.map fun c => addC c d) ∧ Ev (fun k => spec_l09Move.f k l d.f0 d.f1 d.f2) r := by
  unfold spec_l09Move.f
  refine ev_inv0 l.length (fun (s : List Cb) j => s = (l.take j).map fun c => addC c d) (fun r => r = (l.map fun c => addC c d)) (fun s i k => spec_l09Move.l0 k l s i d.f0 d.f1 d.f2) (fun s hi => ?_) (fun s j hj hi => ?_) [] rfl
  ·refine ⟨s, ?_, Ev.step (f := fun _ => some s) (fun k => by simp only [spec_l09Move.l0]; rw [if_neg (by omega)]) (Ev.now _)⟩
   rw [hi, List.take_length]
  ·have hg : rd_T69 l (j : Int) = l[j] := by unfold rd_T69; exact getD_nat l _ j hj
   have hw := wrap_succ j (show j < 9223372036854775807 by omega)
   have hsl : s.length < 5864062014805 := by
    rw [hi, List.length_map, List.length_take]
    omega
   have hnext : ((l.take (j + 1)).map fun c => addC c d) = s ++ [addC l[j] d] := by
    rw [List.take_succ_eq_append_getElem hj, List.map_append, hi]
    rfl
   refine .inr ⟨_, hnext.symm, fun r h2 => Ev.succ ?_⟩
   simp only [spec_l09Move.l0, hg, hsl, spec_l09Add.f, Option.bind_some, if_true, show (j : Int) < (l.length : Int) from by omega, show (0 : Int) ≤ (j : Int) from by omega, hw]
   exact h2
 rw [← hr]
 exact hk
theorem smeet_ev (a b : List Cb) (ha : a.length ≤ 1048576) (hb : b.length ≤ 1048576) : Ev (fun k => spec_l27Meet.f k a b) (a.any fun c => b.contains c) := by
 obtain ⟨r, hr, hk⟩ : ∃ r, r = (a.any fun c => b.contains c) ∧ Ev (fun k => spec_l27Meet.f k a b) r := by
  unfold spec_l27Meet.f
  refine ev_inv0 a.length (fun (_ : Unit) j => (a.take j).any (fun c => b.contains c) = false) (fun r => r = (a.any fun c => b.contains c)) (fun _ i k => spec_l27Meet.l0 k a b i) (fun s hi => ?_) (fun s j hj hi => ?_) () rfl
  ·refine ⟨false, ?_, Ev.step (f := fun _ => some false) (fun k => by simp only [spec_l27Meet.l0]; rw [if_neg (by omega)]) (Ev.now _)⟩
   rw [List.take_length] at hi
   exact hi.symm
  ·have hg : rd_T69 a (j : Int) = a[j] := by unfold rd_T69; exact getD_nat a _ j hj
   have hw := wrap_succ j (show j < 9223372036854775807 by omega)
   obtain ⟨i, hi2, hik⟩ := sindex_ev b a[j] hb
   cases hc : b.contains a[j] with
   | true =>
    rw [hc] at hi2
    have h0 := of_decide_eq_true hi2
    refine .inl ⟨true, (List.any_eq_true.2 ⟨_, List.getElem_mem hj, hc⟩).symm, Ev.step (f := fun k => (spec_l09Index.f k b a[j].f0 a[j].f1 a[j].f2).bind fun t => if t ≥ 0 then some true else spec_l27Meet.l0 k a b (wrap64 ((j : Int) + 1))) (fun k => ?_) (Ev.bind hik (Ev.val fun k => by rw [if_pos h0]))⟩
    simp only [spec_l27Meet.l0, hg, show (j : Int) < (a.length : Int) from by omega, show (0 : Int) ≤ (j : Int) from by omega, if_true]
   | false =>
    rw [hc] at hi2
    have h0 := of_decide_eq_false hi2
    refine .inr ⟨(), ?_, fun r h2 => Ev.step (f := fun k => (spec_l09Index.f k b a[j].f0 a[j].f1 a[j].f2).bind fun t => if t ≥ 0 then some true else spec_l27Meet.l0 k a b (wrap64 ((j : Int) + 1))) (fun k => ?_) (Ev.bind hik ?_)⟩
    ·show (a.take (j + 1)).any _ = false
     rw [List.take_succ_eq_append_getElem hj, List.any_append, hi]
     simp [hc]
     simpa using hc
    ·simp only [spec_l27Meet.l0, hg, show (j : Int) < (a.length : Int) from by omega, show (0 : Int) ≤ (j : Int) from by omega, if_true]
    ·refine Ev.congr (fun k => ?_) h2
     rw [if_neg h0, hw]
 rw [← hr]
 exact hk
section
attribute [local go_sem] max2_int min2_int max_two min_two max_three min_three max_four min_four
mutual
def impl_movedParts.l0 : Nat → List (S69) → List (List (S69)) → List (List (S69)) → Int → Int → Option ((List (List (S69))))
  | 0, _, _, _, _, _ => none
  | k + 1, x1, x5, x12, x13, x14 => if x14 < x13 then (if 0 ≤ x14 then (if x14 < (x12.length : Int) then (impl_movedParts.l1 k x1 x5 x14 (([] : List (S69))) x12 x13 x14 (rd_L4 x12 x14) ((rd_L4 x12 x14).length : Int) 0) else (none)) else (none)) else (some x5)
def impl_movedParts.l1 : Nat → List (S69) → List (List (S69)) → Int → List (S69) → List (List (S69)) → Int → Int → List (S69) → Int → Int → Option ((List (List (S69))))
  | 0, _, _, _, _, _, _, _, _, _, _ => none
  | k + 1, x1, x5, x6, x8, x12, x13, x14, x20, x21, x22 => if x22 < x21 then (if 0 ≤ x22 then (if x22 < (x20.length : Int) then (if 0 ≤ x6 then (if x6 < (x1.length : Int) then ((impl_plusCube.f ((rd_T69 x20 x22).f0) ((rd_T69 x20 x22).f1) ((rd_T69 x20 x22).f2) ((rd_T69 x1 x6).f0) ((rd_T69 x1 x6).f1) ((rd_T69 x1 x6).f2)).bind fun bt308 => (if x8.length < 5864062014805 then (impl_movedParts.l1 k x1 x5 x6 (x8 ++ [(⟨bt308.1, bt308.2.1, bt308.2.2⟩ : S69)]) x12 x13 x14 x20 x21 (wrap64 (x22 + 1))) else (none))) else (none)) else (none)) else (none)) else (none)) else (if x5.length < 5864062014805 then (impl_movedParts.l0 k x1 (x5 ++ [x8]) x12 x13 (wrap64 (x14 + 1))) else (none))
end
def impl_movedParts.f (k : Nat) (l0 : List (List (S69))) (l1 : List (S69)) : Option ((List (List (S69)))) := impl_movedParts.l0 k l1 (([] : List (List (S69)))) l0 (l0.length : Int) 0
def impl_movedParts.T9 : Bool × List (List Nat × List Nat) := (true, [([], []), ([], []), ([], []), ([], []), ([2, 3], [2, 3]), ([4], [4]), ([1, 5], [1, 5]), ([6], [6]), ([0, 7, 6], [0, 7]), ([8, 8, 0, 1, 2, 3, 4, 5, 6, 7, 8], [0, 8])])
def impl_movedParts.B9 : List Nat := [0, 0, 0, 0, 12, 28, 62, 126, 255, 511]
theorem impl_movedParts.tab9 : rtab .any (opsOf Try.f74 9) = impl_movedParts.T9 := by kernel_rfl
theorem impl_movedParts.bits9 : waitsOk impl_movedParts.T9.2 impl_movedParts.B9 = true := by kernel_rfl
set_option maxHeartbeats 8000000 in
set_option maxRecDepth 100000 in
theorem impl_movedParts.calls (k : Nat) (A0 : Option Addr) (c0 : Nat) (l0 : List (List (S69))) (A1 : Option Addr) (c1 : Nat) (l1 : List (S69)) (r : List (List (S69))) (w : World) (hr0 : Kd.C (Kd.slice 69 k69) w A0 l0.length l0) (hc0 : l0.length ≤ c0) (hr1 : Kd.C k69 w A1 l1.length l1) (hc1 : l1.length ≤ c1) (h : impl_movedParts.f k l0 l1 = some r) :
    Calls Try.prog 74 #[.slice A0 l0.length c0, .slice A1 l1.length c1] w fun e w' => ∃ v0_ : Value, e = .returned (v0_) ∧ Kd.S (Kd.slice 69 k69) 34 w' w.heap.size (fun _ => True) v0_ r ∧ Below w.heap.size w w' := by
 (have hu69 := Try.underlying69); (have HR0 := A0_ hr0); (have HC0 := A0_ hc0); clear hr0 hc0; (have HR1 := A0_ hr1); (have HC1 := A0_ hc1); clear hr1 hc1; (have HB := A0_ (Below.refl w.heap.size w)); (have H : (impl_movedParts.l0 k l1 (([] : List (List (S69)))) l0 (l0.length : Int) 0) = some r := h); clear h; (obtain ⟨y298, hy298⟩ : ∃ y_ : List (List (S69)), y_ = (([] : List (List (S69)))) := ⟨_, rfl⟩); (replace H : (impl_movedParts.l0 k l1 y298 l0 (l0.length : Int) 0) = some r := by first | (rw [hy298]; with_reducible exact H) | (have H2_ := (Option.bind_some _ _).symm.trans H; rw [hy298]; with_reducible exact H2_) | (have H2_ := (Option.bind_some _ _).symm.trans H; with_reducible exact H2_) | with_reducible exact H | (rw [hy298]; exact H) | exact H); (have Ny298 := A0_ hy298); clear hy298; (have H' := A0_ H); clear H; (go_enter Try.func74, Try.ntmps74)
 go_wp2_with (first | ((with_reducible refine gate_dst (N := 11) rfl ?_); refine Kd.S_lit (Kd.slice 69 k69) _ 34 ?hg (N := 11) ?hd (xs := ([] : List (List (S69)))) (inner := []) (ok := fun _ => True) (okp := fun _ => True) ?hr ?hp (fun _ hk => hk) trivial (Below.refl _ _) (Nat.le_refl _) (by simp) ?_; (case hd => rfl); (case hg => rfl); (case hr => first | (go_simp; done) | (go_simp; rfl)); (case hp => exact (Reps.none _ _)); intro v299 w3 ho4 hb hg_ hnew_; clear hg_ hnew_; (first | rw [← Ny298.out] at ho4 | (simp only [Int.reduceToNat] at ho4; rw [← Ny298.out] at ho4)); have n0_ := A0_ (Kd.S_lower ho4 (below_size bw_)); have n1_ := A0_ (below_step bw_ hb); clear HB; have HO300 := n0_; have HB := n1_; clear n0_ n1_; clear hb ho4))
 go_loopg [5, 14] k (fun kq v5 v14 w' => ∃ (x5_1 : List (List (S69))) (x14_1 : Int), v14 = .int .i64 x14_1 ∧ Aside0 (impl_movedParts.l0 kq l1 x5_1 l0 (l0.length : Int) x14_1 = some r) ∧ Aside0 (kq ≤ k) ∧ Aside0 (Kd.S (Kd.slice 69 k69) 34 w' w.heap.size (fun _ => True) v5 x5_1) ∧ Aside0 (Below w.heap.size w w'))
 case atStart => exact ⟨(y298), (0), (by first | rfl | (simp; done) | (simp [*]; done)), H', ⟨Nat.le_refl _⟩, ⟨by (with_reducible repeat (first | apply Kd.S_alloc | apply Kd.S_drewN | apply Kd.S_drew)); exact HO300.out⟩, ⟨by repeat (first | (with_reducible first | exact HB.out | apply ba_ | apply bn_ | apply bd_) | exact HB.out)⟩⟩
 case round =>
  clear H'; (try clear c1); (try clear p2); (obtain ⟨x5_1, x14_1, rfl, HA, HK1, HO_5, HB⟩ := hrel)
  cases gk with
  | zero => exact absurd HA.out (by simp [impl_movedParts.l0])
  | succ k1 =>
   (have H := HA.out); clear HA; (simp only [impl_movedParts.l0] at H); (by_cases c5 : x14_1 < (l0.length : Int))
   ·(rw [if_pos c5] at H); (have c5b0 : decide (x14_1 < (l0.length : Int)) = true := decide_eq_true c5); clear c5; (by_cases c6 : 0 ≤ x14_1)
    ·(rw [if_pos c6] at H); (have c6b0 : decide (0 ≤ x14_1) = true := decide_eq_true c6); clear c6; (by_cases c7 : x14_1 < (l0.length : Int))
     ·(rw [if_pos c7] at H); (have c7b0 : decide (x14_1 < (l0.length : Int)) = true := decide_eq_true c7); clear c7; (obtain ⟨y302, hy302⟩ : ∃ y_ : List (S69), y_ = (([] : List (S69))) := ⟨_, rfl⟩); (replace H : (impl_movedParts.l1 k1 l1 x5_1 x14_1 y302 l0 (l0.length : Int) x14_1 (rd_L4 l0 x14_1) ((rd_L4 l0 x14_1).length : Int) 0) = some r := by first | (rw [hy302]; with_reducible exact H) | (have H2_ := (Option.bind_some _ _).symm.trans H; rw [hy302]; with_reducible exact H2_) | (have H2_ := (Option.bind_some _ _).symm.trans H; with_reducible exact H2_) | with_reducible exact H | (rw [hy302]; exact H) | exact H); (have Ny302 := A0_ hy302); clear hy302; (have H' := A0_ H); clear H; (have p301 : 0 ≤ (x14_1 : Int) := of_decide_eq_true as_); (have q301 : x14_1 < (l0.length : Int) := of_decide_eq_true as_); (obtain ⟨ad301, A301_0, c301_0, e301, hx301_0, hl301_0, hi301_0⟩ := at_L4 HR0.out x14_1 p301 q301); (cases e301); (replace hx301_0 := (HB.out.cell (World.block_lt_of_cell? w _ hx301_0)).trans hx301_0); (have HR301_0 := A0_ hi301_0); (have HC301_0 := A0_ hl301_0); clear hi301_0 hl301_0; (replace p301 := eq_true p301); (replace q301 := eq_true q301)
      go_wp2_with (first | ((with_reducible refine gate_dst (N := 19) rfl ?_); refine Kd.R_lit k69 _ 69 ?hg (N := 19) ?hd (xs := ([] : List (S69))) (inner := []) (ok := fun _ => True) (okp := fun _ => True) ?hr ?hp (fun _ hk => hk) trivial (Below.refl _ _) (Nat.le_refl _) (by simp) ?_; (case hd => rfl); (case hg => rfl); (case hr => first | (go_simp; done) | (go_simp; rfl)); (case hp => exact (Reps.none _ _)); intro v303 w8 ho9 hb hg_ hnew_; clear hg_ hnew_; (first | rw [← Ny302.out] at ho9 | (simp only [Int.reduceToNat] at ho9; rw [← Ny302.out] at ho9)); have n0_ := A0_ (Kd.S_elder' (by (with_reducible repeat (first | apply Kd.S_alloc | apply Kd.S_drewN | apply Kd.S_drew)); exact HO_5.out) (Kd.R_base ho9) hb); have n1_ := A0_ (Kd.R_lower ho9 (below_size bw_)); have n2_ := A0_ (below_step bw_ hb); clear HO_5; clear HB; have HO_5 := n0_; have HO304 := n1_; have HB := n2_; clear n0_ n1_ n2_; clear hb ho9))
      go_loopg [8, 22] k1 (fun kq v8 v22 w' => ∃ (x8_2 : List (S69)) (x22_2 : Int), v22 = .int .i64 x22_2 ∧ Aside0 (impl_movedParts.l1 kq l1 x5_1 x14_1 x8_2 l0 (l0.length : Int) x14_1 (rd_L4 l0 x14_1) ((rd_L4 l0 x14_1).length : Int) x22_2 = some r) ∧ Aside0 (kq ≤ k1) ∧ Aside0 (Kd.S (Kd.slice 69 k69) 34 w' w.heap.size (fun k_ => some k_ ≠ (v8 : Value).ownBlock) u5 x5_1) ∧ Aside0 (Kd.R k69 69 w' w.heap.size (fun _ => True) v8 x8_2) ∧ Aside0 (Below w.heap.size w w'))
      case atStart => exact ⟨(y302), (0), (by first | rfl | (simp; done) | (simp [*]; done)), H', ⟨Nat.le_refl _⟩, ⟨by (with_reducible repeat (first | apply Kd.S_alloc | apply Kd.S_drewN | apply Kd.S_drew)); exact Kd.S_mono HO_5.out (fun _ hk => hk.2)⟩, ⟨by (with_reducible repeat (first | apply Ra_ | apply Rn_ | apply Rd_)); exact HO304.out⟩, ⟨by repeat (first | (with_reducible first | exact HB.out | apply ba_ | apply bn_ | apply bd_) | exact HB.out)⟩⟩
      case round =>
       clear H'; (try clear c1); (try clear p2); (try clear c3); (try clear p3); (try clear q3); (try clear hx3); (try clear c5); (try clear c5b0); (try clear c6); (try clear c6b0); (try clear c7); (try clear c7b0); (try clear hx301_0); (try clear p2); (try clear p301); (try clear q301); (obtain ⟨x8_2, x22_2, rfl, HA, HK2, HO_5, HO_8, HB⟩ := hrel)
       cases gk with
       | zero => exact absurd HA.out (by simp [impl_movedParts.l1])
       | succ k2 =>
        (have H := HA.out); clear HA; (simp only [impl_movedParts.l1] at H); (by_cases c10 : x22_2 < ((rd_L4 l0 x14_1).length : Int))
        ·(rw [if_pos c10] at H); (have c10b0 : decide (x22_2 < ((rd_L4 l0 x14_1).length : Int)) = true := decide_eq_true c10); clear c10; (by_cases c11 : 0 ≤ x22_2)
         ·(rw [if_pos c11] at H); (have c11b0 : decide (0 ≤ x22_2) = true := decide_eq_true c11); clear c11; (by_cases c12 : x22_2 < ((rd_L4 l0 x14_1).length : Int))
          ·(rw [if_pos c12] at H); (have c12b0 : decide (x22_2 < ((rd_L4 l0 x14_1).length : Int)) = true := decide_eq_true c12); clear c12; (by_cases c13 : 0 ≤ x14_1)
           ·(rw [if_pos c13] at H); (have c13b0 : decide (0 ≤ x14_1) = true := decide_eq_true c13); clear c13; (by_cases c14 : x14_1 < (l1.length : Int))
            ·(rw [if_pos c14] at H); (have c14b0 : decide (x14_1 < (l1.length : Int)) = true := decide_eq_true c14); clear c14; (replace H := Option.bind_eq_some_iff.mp H); (obtain ⟨⟨t308, t309, t310⟩, A150, H⟩ := H); (try dsimp only at H); (have A15 := A0_ A150); clear A150; (by_cases c16 : x8_2.length < 5864062014805)
             ·(rw [if_pos c16] at H); (have LMc16 := A0_ c16); clear c16; (obtain ⟨y311, hy311⟩ : ∃ y_ : List (S69), y_ = (x8_2 ++ [(⟨t308, t309, t310⟩ : S69)]) := ⟨_, rfl⟩); (replace H : (impl_movedParts.l1 k2 l1 x5_1 x14_1 y311 l0 (l0.length : Int) x14_1 (rd_L4 l0 x14_1) ((rd_L4 l0 x14_1).length : Int) (wrap64 (x22_2 + 1))) = some r := by first | (rw [hy311]; with_reducible exact H) | (have H2_ := (Option.bind_some _ _).symm.trans H; rw [hy311]; with_reducible exact H2_) | (have H2_ := (Option.bind_some _ _).symm.trans H; with_reducible exact H2_) | with_reducible exact H | (rw [hy311]; exact H) | exact H); (have Ny311 := A0_ hy311); clear hy311; (have H' := A0_ H); clear H; (have p305 : 0 ≤ (x22_2 : Int) := of_decide_eq_true as_); (have q305 : x22_2 < ((rd_L4 l0 x14_1).length : Int) := of_decide_eq_true as_); (obtain ⟨ad305, e305, hx305_0, hx305_1, hx305_2⟩ := at_T69 HR301_0.out x22_2 p305 q305); (cases e305); (replace hx305_0 := (HB.out.cell (World.block_lt_of_cell? w _ hx305_0)).trans hx305_0); (replace hx305_1 := (HB.out.cell (World.block_lt_of_cell? w _ hx305_1)).trans hx305_1); (replace hx305_2 := (HB.out.cell (World.block_lt_of_cell? w _ hx305_2)).trans hx305_2); (replace p305 := eq_true p305); (replace q305 := eq_true q305); (try go_wp2_with (first | ((with_reducible refine gate_dst (N := 10) rfl ?_); refine be_ (N := 10) (cs := #[.int .i64 0, .int .i64 0, .int .i64 0]) (t := 69) ?_; intro gb306 hg w17 hbox hb; have n0_ := A0_ (Kd.S_below (Kd.S_elderB (by (with_reducible repeat (first | apply Kd.S_alloc | apply Kd.S_drewN | apply Kd.S_drew)); exact HO_5.out) gb306 (Nat.le_of_eq hg.symm)) hb); have n1_ := A0_ (Kd.R_below (Kd.R_elderB (by (with_reducible repeat (first | apply Ra_ | apply Rn_ | apply Rd_)); exact HO_8.out) gb306 (Nat.le_of_eq hg.symm)) hb); have n2_ := A0_ (below_step bw_ hb); have n3_ := A0_ (hbox); have n4_ := A0_ ((by rw [hg]; exact (below_size bw_) : w.heap.size ≤ gb306)); have n5_ := A0_ ((by rw [hg]; exact (below_size bw_) : w.heap.size ≤ gb306)); clear HO_5; clear HO_8; clear HB; have HO_5 := n0_; have HO_8 := n1_; have HB := n2_; have BK306 := n3_; have GW306 := n4_; have GE306 := n5_; clear n0_ n1_ n2_ n3_ n4_ n5_; clear hb hbox hg; have hcz18_0 : w17.cell? ⟨gb306, 0, none⟩ = some (.int .i64 0) := (blk_cell BK306.out 0).trans rfl; have hcz18_1 : w17.cell? ⟨gb306, 1, none⟩ = some (.int .i64 0) := (blk_cell BK306.out 1).trans rfl; have hcz18_2 : w17.cell? ⟨gb306, 2, none⟩ = some (.int .i64 0) := (blk_cell BK306.out 2).trans rfl; have hfz18_0 := blk_frozen BK306.out 0; have hfz18_1 := blk_frozen BK306.out 1; have hfz18_2 := blk_frozen BK306.out 2)))
              have n0_ : Aside0 (Kd.S (Kd.slice 69 k69) 34 (((w17.setCell ⟨gb306, 0, none⟩ (.int .i64 ((rd_T69 (rd_L4 l0 x14_1) x22_2).f0))).setCell ⟨gb306, 1, none⟩ (.int .i64 ((rd_T69 (rd_L4 l0 x14_1) x22_2).f1))).setCell ⟨gb306, 2, none⟩ (.int .i64 ((rd_T69 (rd_L4 l0 x14_1) x22_2).f2))) w.heap.size (fun k_ => some k_ ≠ (u8 : Value).ownBlock ∧ k_ ≠ gb306) u5 x5_1) := ⟨by (with_reducible repeat (first | apply Kd.S_alloc | apply Kd.S_drewN | apply Kd.S_drew)); exact Kd.S_mono (Kd.S_far (p := ⟨gb306, 2, none⟩) (Kd.S_far (p := ⟨gb306, 1, none⟩) (Kd.S_far (p := ⟨gb306, 0, none⟩) (Kd.S_mono HO_5.out (fun k_ hk => (⟨hk, hk.2⟩ : _ ∧ k_ ≠ gb306))) (fun _ hk => hk.2) (.int .i64 ((rd_T69 (rd_L4 l0 x14_1) x22_2).f0))) (fun _ hk => hk.2) (.int .i64 ((rd_T69 (rd_L4 l0 x14_1) x22_2).f1))) (fun _ hk => hk.2) (.int .i64 ((rd_T69 (rd_L4 l0 x14_1) x22_2).f2))) (fun _ hk => ⟨hk.1.1, hk.1.2⟩)⟩
              have n1_ : Aside0 (Kd.R k69 69 (((w17.setCell ⟨gb306, 0, none⟩ (.int .i64 ((rd_T69 (rd_L4 l0 x14_1) x22_2).f0))).setCell ⟨gb306, 1, none⟩ (.int .i64 ((rd_T69 (rd_L4 l0 x14_1) x22_2).f1))).setCell ⟨gb306, 2, none⟩ (.int .i64 ((rd_T69 (rd_L4 l0 x14_1) x22_2).f2))) w.heap.size (fun k_ => k_ ≠ gb306) u8 x8_2) := ⟨by (with_reducible repeat (first | apply Ra_ | apply Rn_ | apply Rd_)); exact Kd.R_mono (Kd.R_far (p := ⟨gb306, 2, none⟩) (Kd.R_far (p := ⟨gb306, 1, none⟩) (Kd.R_far (p := ⟨gb306, 0, none⟩) (Kd.R_mono HO_8.out (fun k_ hk => (⟨hk, hk.2⟩ : _ ∧ k_ ≠ gb306))) (fun _ hk => hk.2) (.int .i64 ((rd_T69 (rd_L4 l0 x14_1) x22_2).f0))) (fun _ hk => hk.2) (.int .i64 ((rd_T69 (rd_L4 l0 x14_1) x22_2).f1))) (fun _ hk => hk.2) (.int .i64 ((rd_T69 (rd_L4 l0 x14_1) x22_2).f2))) (fun _ hk => hk.1.2)⟩
              (have n2_ : Aside0 ((((w17.setCell ⟨gb306, 0, none⟩ (.int .i64 ((rd_T69 (rd_L4 l0 x14_1) x22_2).f0))).setCell ⟨gb306, 1, none⟩ (.int .i64 ((rd_T69 (rd_L4 l0 x14_1) x22_2).f1))).setCell ⟨gb306, 2, none⟩ (.int .i64 ((rd_T69 (rd_L4 l0 x14_1) x22_2).f2))).heap[gb306]? = some (.cells #[.int .i64 ((rd_T69 (rd_L4 l0 x14_1) x22_2).f0), .int .i64 ((rd_T69 (rd_L4 l0 x14_1) x22_2).f1), .int .i64 ((rd_T69 (rd_L4 l0 x14_1) x22_2).f2)] 69 (0, 0))) := ⟨by (with_reducible repeat (first | apply gn_ | apply gd_ | apply ga_)); refine blk_put (cs := #[.int .i64 ((rd_T69 (rd_L4 l0 x14_1) x22_2).f0), .int .i64 ((rd_T69 (rd_L4 l0 x14_1) x22_2).f1), .int .i64 0]) ?_ 2 _ rfl; (with_reducible repeat (first | apply gn_ | apply gd_ | apply ga_)); refine blk_put (cs := #[.int .i64 ((rd_T69 (rd_L4 l0 x14_1) x22_2).f0), .int .i64 0, .int .i64 0]) ?_ 1 _ rfl; (with_reducible repeat (first | apply gn_ | apply gd_ | apply ga_)); refine blk_put (cs := #[.int .i64 0, .int .i64 0, .int .i64 0]) ?_ 0 _ rfl; (with_reducible repeat (first | apply gn_ | apply gd_ | apply ga_)); exact BK306.out⟩); (have n3_ : Aside0 (Below w.heap.size w (((w17.setCell ⟨gb306, 0, none⟩ (.int .i64 ((rd_T69 (rd_L4 l0 x14_1) x22_2).f0))).setCell ⟨gb306, 1, none⟩ (.int .i64 ((rd_T69 (rd_L4 l0 x14_1) x22_2).f1))).setCell ⟨gb306, 2, none⟩ (.int .i64 ((rd_T69 (rd_L4 l0 x14_1) x22_2).f2)))) := ⟨by repeat (first | (with_reducible first | exact HB.out | apply ba_ | apply bn_ | apply bd_ | refine below_set ?_ GE306.out) | exact HB.out)⟩); ((try clear HO_5)); ((try clear HO_8)); ((try clear BK306)); ((try clear HB)); (generalize (((w17.setCell ⟨gb306, 0, none⟩ (.int .i64 ((rd_T69 (rd_L4 l0 x14_1) x22_2).f0))).setCell ⟨gb306, 1, none⟩ (.int .i64 ((rd_T69 (rd_L4 l0 x14_1) x22_2).f1))).setCell ⟨gb306, 2, none⟩ (.int .i64 ((rd_T69 (rd_L4 l0 x14_1) x22_2).f2))) = w19 at n0_ n1_ n2_ n3_ ⊢); (have HO_5 := n0_); (have HO_8 := n1_); (have BK306 := n2_); (have HB := n3_); clear n0_ n1_ n2_ n3_; (have n0_ := A0_ (Kd.S_drew HO_5.out)); (have n1_ := A0_ (Kd.R_drew HO_8.out)); (have n2_ := A0_ (blk_drew BK306.out)); (have n3_ := A0_ (below_drew1 HB.out)); clear HO_5; clear HO_8; clear BK306; clear HB; (have HO_5 := n0_); (have HO_8 := n1_); (have BK306 := n2_); (have HB := n3_); clear n0_ n1_ n2_ n3_; (have p307 : 0 ≤ (x14_1 : Int) := of_decide_eq_true as_); (have q307 : x14_1 < (l1.length : Int) := of_decide_eq_true as_); (obtain ⟨ad307, e307, hx307_0, hx307_1, hx307_2⟩ := at_T69 HR1.out x14_1 p307 q307); (have hw307_2 := hx307_2); (have hw307_1 := hx307_1); (have hw307_0 := hx307_0); (cases e307); (replace hx307_0 := (HB.out.cell (World.block_lt_of_cell? w _ hx307_0)).trans hx307_0); (replace hx307_1 := (HB.out.cell (World.block_lt_of_cell? w _ hx307_1)).trans hx307_1); (replace hx307_2 := (HB.out.cell (World.block_lt_of_cell? w _ hx307_2)).trans hx307_2); (replace p307 := eq_true p307); (replace q307 := eq_true q307)
              refine start_ (n := 10) (S := fun w' => w'.cell? ⟨gb306, 0, none⟩ = some (.int .i64 ((rd_T69 (rd_L4 l0 x14_1) x22_2).f0)) ∧ w'.cell? ⟨gb306, 1, none⟩ = some (.int .i64 ((rd_T69 (rd_L4 l0 x14_1) x22_2).f1)) ∧ w'.cell? ⟨gb306, 2, none⟩ = some (.int .i64 ((rd_T69 (rd_L4 l0 x14_1) x22_2).f2)) ∧ w'.cell? (ad307.add ((x14_1).toNat * 3)) = some (.int .i64 ((rd_T69 l1 x14_1).f0)) ∧ w'.cell? ⟨(ad307.add ((x14_1).toNat * 3)).block, (ad307.add ((x14_1).toNat * 3)).off + 1, none⟩ = some (.int .i64 ((rd_T69 l1 x14_1).f1)) ∧ w'.cell? ⟨(ad307.add ((x14_1).toNat * 3)).block, (ad307.add ((x14_1).toNat * 3)).off + 2, none⟩ = some (.int .i64 ((rd_T69 l1 x14_1).f2))) (ds := []) #[ff,ff,ff,ff,ff,ff,ff,ff,ff,ff] (by kernel_rfl) rfl rfl ⟨(blk_cell BK306.out 0).trans rfl, (blk_cell BK306.out 1).trans rfl, (blk_cell BK306.out 2).trans rfl, ((HB.out.cell (World.block_lt_of_cell? w _ hw307_0)).trans hw307_0), ((HB.out.cell (World.block_lt_of_cell? w _ hw307_1)).trans hw307_1), ((HB.out.cell (World.block_lt_of_cell? w _ hw307_2)).trans hw307_2)⟩ (fun hHeld => ?_); refine with_tabW impl_movedParts.tab9 impl_movedParts.bits9 (fun HT_ HW_ => ?_)
              (generalize w19.drew = w20 at HO_5 HO_8 BK306 HB hx307_0 hx307_1 hx307_2 hHeld ⊢); (refine on_ 0 (some 26) ?_); (refine on_ 2 (some 28) ?_); (refine on_ 3 (some 29) ?_); (refine on_ 4 (some 30) ?_); (refine tk_ 1 (some 27) ?_); (refine tk_ 5 (some 31) ?_)
              refine o1_ 6 (some 32) (fun K hK => ?_)
              (refine gs_ Try.func98 #[.agg #[.int .i64 ((rd_T69 (rd_L4 l0 x14_1) x22_2).f0), .int .i64 ((rd_T69 (rd_L4 l0 x14_1) x22_2).f1), .int .i64 ((rd_T69 (rd_L4 l0 x14_1) x22_2).f2)], .agg #[.int .i64 ((rd_T69 l1 x14_1).f0), .int .i64 ((rd_T69 l1 x14_1).f1), .int .i64 ((rd_T69 l1 x14_1).f2)]] ?_); (with_reducible refine (impl_plusCube.calls ((rd_T69 (rd_L4 l0 x14_1) x22_2).f0) ((rd_T69 (rd_L4 l0 x14_1) x22_2).f1) ((rd_T69 (rd_L4 l0 x14_1) x22_2).f2) ((rd_T69 l1 x14_1).f0) ((rd_T69 l1 x14_1).f1) ((rd_T69 l1 x14_1).f2) t308 t309 t310 _ A15.out).mono ?_); (rintro e w21 ⟨rfl, hb⟩); (refine ⟨_, rfl, ?_⟩); (have n0_ := A0_ (Kd.S_below (by (with_reducible repeat (first | apply Kd.S_alloc | apply Kd.S_drewN | apply Kd.S_drew)); exact HO_5.out) hb)); (have n1_ := A0_ (Kd.R_below (by (with_reducible repeat (first | apply Ra_ | apply Rn_ | apply Rd_)); exact HO_8.out) hb)); (have n2_ := A0_ (blk_below (g := gb306) (o := .cells #[.int .i64 ((rd_T69 (rd_L4 l0 x14_1) x22_2).f0), .int .i64 ((rd_T69 (rd_L4 l0 x14_1) x22_2).f1), .int .i64 ((rd_T69 (rd_L4 l0 x14_1) x22_2).f2)] 69 (0, 0)) (bk_ BK306) hb)); (have n3_ := A0_ (below_step bx_ hb)); clear HO_5; clear HO_8; clear BK306; clear HB; (have HO_5 := n0_); (have HO_8 := n1_); (have BK306 := n2_); (have HB := n3_); clear n0_ n1_ n2_ n3_; ((try clear hb)); ((try clear hb2)); ((try clear hk)); ((try clear hi))
              refine hK.out _ _ ⟨(blk_cell BK306.out 0).trans rfl, (blk_cell BK306.out 1).trans rfl, (blk_cell BK306.out 2).trans rfl, ((HB.out.cell (World.block_lt_of_cell? w _ hw307_0)).trans hw307_0), ((HB.out.cell (World.block_lt_of_cell? w _ hw307_1)).trans hw307_1), ((HB.out.cell (World.block_lt_of_cell? w _ hw307_2)).trans hw307_2)⟩ (fun hHeld => ?_)
              clear hK K; (refine nm_ (some 32) ?_)
              refine o1_ 7 (some 33) (fun K hK => ?_)
              (refine value_ (w1 := ?_) (v := ?_) (by rfl) rfl ?_ ?_); (rotate_left 2)
              ·go_simp; (constructor)
               ·rfl
               ·rfl
              refine hK.out _ _ ⟨(blk_cell (blk_alloc BK306.out _) 0).trans rfl, (blk_cell (blk_alloc BK306.out _) 1).trans rfl, (blk_cell (blk_alloc BK306.out _) 2).trans rfl, (World.cell?_alloc_lt _ _ _ (World.block_lt_of_cell? _ _ (((HB.out.cell (World.block_lt_of_cell? w _ hw307_0)).trans hw307_0)))).trans (((HB.out.cell (World.block_lt_of_cell? w _ hw307_0)).trans hw307_0)), (World.cell?_alloc_lt _ _ _ (World.block_lt_of_cell? _ _ (((HB.out.cell (World.block_lt_of_cell? w _ hw307_1)).trans hw307_1)))).trans (((HB.out.cell (World.block_lt_of_cell? w _ hw307_1)).trans hw307_1)), (World.cell?_alloc_lt _ _ _ (World.block_lt_of_cell? _ _ (((HB.out.cell (World.block_lt_of_cell? w _ hw307_2)).trans hw307_2)))).trans (((HB.out.cell (World.block_lt_of_cell? w _ hw307_2)).trans hw307_2))⟩ (fun hHeld => ?_)
              clear hK K; (refine nm_ (some 33) ?_)
              refine o1_ 8 (some 34) (fun K hK => ?_)
              refine Kd.R_append_step k69 (w0 := w) w.heap.size (by rfl) (.tmp 26) (.tmp 33) 34 69 (.agg #[(.int .i64 0), (.int .i64 0), (.int .i64 0)]) 24 rfl Try.underlying34 info69 rfl (by decide) (by omega) u8 x8_2 (⟨t308, t309, t310⟩ : S69) [.int .i64 t308, .int .i64 t309, .int .i64 t310] (fun k_ => k_ ≠ gb306) (fun _ => False) rfl rfl ?aP (fun _ hk => hk.elim) ?aF ?aO ?aB ?aS ?aL ?_
              ((case aP => exact k69_mkM _ _ _ (⟨t308, t309, t310⟩ : S69))); ((case aB => exact bx_))
              (case aF => exact (fun k_ hk => Kd.freshB (g := gb306) (o := .cells #[.int .i64 ((rd_T69 (rd_L4 l0 x14_1) x22_2).f0), .int .i64 ((rd_T69 (rd_L4 l0 x14_1) x22_2).f1), .int .i64 ((rd_T69 (rd_L4 l0 x14_1) x22_2).f2)] 69 (0, 0)) (bk_ BK306) k_ hk))
              ((case aO => exact (by (with_reducible repeat (first | apply Ra_ | apply Rn_ | apply Rd_)); exact HO_8.out))); ((case aS => exact (below_size bx_))); ((case aL => have := LMc16.out; omega)); intro v312 w22 ho hb hg hat; (rw [← Ny311.out] at ho)
              have n0_ := A0_ (Kd.S_after (ok := (fun k_ => k_ ≠ gb306)) (by (with_reducible repeat (first | apply Kd.S_alloc | apply Kd.S_drewN | apply Kd.S_drew)); exact Kd.S_mono HO_5.out (fun _ hk => ⟨hk.2, hk.1⟩)) hg hat)
              have n1_ := A0_ (blk_grown (g := gb306) (o := .cells #[.int .i64 ((rd_T69 (rd_L4 l0 x14_1) x22_2).f0), .int .i64 ((rd_T69 (rd_L4 l0 x14_1) x22_2).f1), .int .i64 ((rd_T69 (rd_L4 l0 x14_1) x22_2).f2)] 69 (0, 0)) (bk_ BK306) hg (Kd.R_away HO_8.out (fun _ hk => hk)))
              (have n2_ := A0_ (hb)); (have n3_ := A0_ (ho)); clear HO_5; clear BK306; clear HB; clear HO_8; (have HO_5 := n0_); (have BK306 := n1_); (have HB := n2_); (have HO313 := n3_); clear n0_ n1_ n2_ n3_; clear ho hb hg hat
              refine hK.out _ _ ⟨(blk_cell BK306.out 0).trans rfl, (blk_cell BK306.out 1).trans rfl, (blk_cell BK306.out 2).trans rfl, ((HB.out.cell (World.block_lt_of_cell? w _ hw307_0)).trans hw307_0), ((HB.out.cell (World.block_lt_of_cell? w _ hw307_1)).trans hw307_1), ((HB.out.cell (World.block_lt_of_cell? w _ hw307_2)).trans hw307_2)⟩ (fun hHeld => ?_)
              clear hK K; (refine nm_ (some 34) ?_); (refine on_ 9 (some 8) ?_); (refine dn_ ?_); (try go_wp2); (go_roundg k2)
              case measure => have := HK1.out; have := HK2.out; omega
              case rel => exact ⟨(y311), (wrap64 (x22_2 + 1)), (by first | rfl | (simp; done) | (simp [*]; done)), H', ⟨by have := HK1.out; have := HK2.out; omega⟩, ⟨by (with_reducible repeat (first | apply Kd.S_alloc | apply Kd.S_drewN | apply Kd.S_drew)); exact Kd.S_mono HO_5.out (fun _ hk => hk.2)⟩, ⟨by (with_reducible repeat (first | apply Ra_ | apply Rn_ | apply Rd_)); exact Kd.R_mono HO313.out (fun _ hk => trivial)⟩, ⟨by repeat (first | (with_reducible first | exact HB.out | apply ba_ | apply bn_ | apply bd_ | refine below_set ?_ GE306.out) | exact HB.out)⟩⟩
             ·(rw [if_neg c16] at H); (exact absurd H (by simp))
            ·(rw [if_neg c14] at H); (exact absurd H (by simp))
           ·(rw [if_neg c13] at H); (exact absurd H (by simp))
          ·(rw [if_neg c12] at H); (exact absurd H (by simp))
         ·(rw [if_neg c11] at H); (exact absurd H (by simp))
        ·(rw [if_neg c10] at H); (have c10b0 : decide (x22_2 < ((rd_L4 l0 x14_1).length : Int)) = false := decide_eq_false c10); clear c10; (by_cases c23 : x5_1.length < 5864062014805)
         ·(rw [if_pos c23] at H); (have LMc23 := A0_ c23); clear c23; (obtain ⟨y314, hy314⟩ : ∃ y_ : List (List (S69)), y_ = (x5_1 ++ [x8_2]) := ⟨_, rfl⟩); (replace H : (impl_movedParts.l0 k2 l1 y314 l0 (l0.length : Int) (wrap64 (x14_1 + 1))) = some r := by first | (rw [hy314]; with_reducible exact H) | (have H2_ := (Option.bind_some _ _).symm.trans H; rw [hy314]; with_reducible exact H2_) | (have H2_ := (Option.bind_some _ _).symm.trans H; with_reducible exact H2_) | with_reducible exact H | (rw [hy314]; exact H) | exact H); (have Ny314 := A0_ hy314); clear hy314; (have H' := A0_ H); clear H; (obtain ⟨Ao25, co25, eo25⟩ := Kd.R_slice HO_8.out); subst eo25
          go_wp2_with (first | ((with_reducible refine gate_builtin (b := .append) (xs := #[.tmp 36, .tmp 38]) rfl ?_); at_builtin; refine Kd.S_append (Kd.slice 69 k69) (w0 := w) w.heap.size rfl (.tmp 36) (.tmp 38) 28 34 (.slice none 0 0) 24 rfl Try.underlying28 info34 rfl (by decide) (by omega) u5 x5_1 x8_2 [.slice Ao25 x8_2.length co25] (fun _ => True) (fun k_ => some k_ = (.slice Ao25 x8_2.length co25 : Value).ownBlock) rfl rfl ?aP (fun k_ hk_ => ((Kd.R_mono (ok' := fun k_ => ((fun _ => True)) k_ ∧ some k_ ≠ (u5 : Value).ownBlock) (Kd.R_apart' (HO_8.out) (Kd.S_typed HO_5.out) (by decide)) (fun k_ hk => ⟨trivial, hk.2⟩))).1 k_ hk_.symm) ?aF ?aO ?aB ?aS ?aL ?_; (case aP => exact Kd.M_row (Kd.R_mono (Kd.R_tight rfl (Kd.R_mono (ok' := fun k_ => ((fun _ => True)) k_ ∧ some k_ ≠ (u5 : Value).ownBlock) (Kd.R_apart' (HO_8.out) (Kd.S_typed HO_5.out) (by decide)) (fun k_ hk => ⟨trivial, hk.2⟩))) (fun _ h_ => h_))); (case aB => exact bw_); (case aF => exact (fun _ _ => trivial)); (case aO => exact (by (with_reducible repeat (first | apply Kd.S_alloc | apply Kd.S_drewN | apply Kd.S_drew)); exact Kd.S_mono HO_5.out (fun k_ hk => ⟨trivial, fun e_ => hk e_⟩))); (case aS => exact (below_size bw_)); (case aL => have := LMc23.out; omega); intro v315 w24 ho hb hg hat; rw [← Ny314.out] at ho; have n0_ := A0_ (hb); have n1_ := A0_ (ho); clear HB; clear HO_5; clear HO_8; have HB := n0_; have HO316 := n1_; clear n0_ n1_; clear ho hb hg hat))
          (go_roundg k2)
          case measure => have := HK1.out; have := HK2.out; omega
          case rel => exact ⟨(y314), (wrap64 (x14_1 + 1)), (by first | rfl | (simp; done) | (simp [*]; done)), H', ⟨by have := HK1.out; have := HK2.out; omega⟩, ⟨by (with_reducible repeat (first | apply Kd.S_alloc | apply Kd.S_drewN | apply Kd.S_drew)); exact HO316.out⟩, ⟨by repeat (first | (with_reducible first | exact HB.out | apply ba_ | apply bn_ | apply bd_) | exact HB.out)⟩⟩
         ·(rw [if_neg c23] at H); (exact absurd H (by simp))
     ·(rw [if_neg c7] at H); (exact absurd H (by simp))
    ·(rw [if_neg c6] at H); (exact absurd H (by simp))
   ·(rw [if_neg c5] at H); (have c5b0 : decide (x14_1 < (l0.length : Int)) = false := decide_eq_false c5); clear c5; (obtain rfl := Option.some.inj H); go_wp2; go_ret; (exact ⟨_, by first | rfl | (simp [errW_none, errW_some] <;> rfl) | (simp [*, errW_none, errW_some] <;> rfl), by (with_reducible repeat (first | apply Kd.S_alloc | apply Kd.S_drewN | apply Kd.S_drew)); exact HO_5.out, by repeat (first | (with_reducible first | exact HB.out | apply ba_ | apply bn_ | apply bd_) | exact HB.out)⟩)
end
def minC (a b : Cb) : Cb := ⟨if b.f0 < a.f0 then b.f0 else a.f0, if b.f1 < a.f1 then b.f1 else a.f1, if b.f2 < a.f2 then b.f2 else a.f2⟩
def shiftP (o : Cb) (p : List Cb) : List Cb := p.map fun c => addC c o
def allMoved (parts : List (List Cb)) (offs : List Cb) : List (List Cb) := (List.range parts.length).map fun i => shiftP (oAt offs i) (pAt parts i)
def leastP (rows : List (List Cb)) : Cb := rows.foldl (fun a p => p.foldl minC a) (cAt (rows.getD 0 []) 0)
def downP (o : Cb) (p : List Cb) : List Cb := p.map fun c => subC c o
def backP (rows : List (List Cb)) : List (List Cb) := rows.map (downP (leastP rows))
def restP (parts : List (List Cb)) (offs : List Cb) (part : Nat) : List (List Cb) := backP ((allMoved parts offs).eraseIdx part)
theorem pAt_at (parts : List (List Cb)) (i : Nat) (h : i < parts.length) : pAt parts i = parts[i] := by
 show parts.getD ((i : Int).toNat) [] = _
 exact getD_nat parts _ i h
theorem mparts_ev (parts : List (List Cb)) (offs : List Cb) (hl : parts.length ≤ offs.length) (hn : parts.length ≤ 1048576) (hp : ∀ p ∈ parts, p.length ≤ 1048576) : Ev (fun k => impl_movedParts.f k parts offs) (allMoved parts offs) := by
 unfold impl_movedParts.f
 refine ev_at parts.length (fun s i => s = (List.range i).map fun i => shiftP (oAt offs i) (pAt parts i)) _ (fun s i k => impl_movedParts.l0 k offs s parts (parts.length : Int) i) (fun s hi => ?_) (fun s i hi hs => ?_) [] rfl
 ·exact Ev.step (f := fun _ => some (allMoved parts offs)) (fun k => by simp only [impl_movedParts.l0]; rw [if_neg (by omega), hi]; rfl) (Ev.now _)
 ·have hg : rd_L4 parts (i : Int) = parts[i] := by unfold rd_L4; exact getD_nat parts _ i hi
  have hw := wrap_succ i (show i < 9223372036854775807 by omega)
  have hsl : s.length < 5864062014805 := by rw [hs, List.length_map, List.length_range]; omega
  have hnext : ((List.range (i + 1)).map fun i => shiftP (oAt offs i) (pAt parts i)) = s ++ [shiftP (oAt offs i) parts[i]] := by
   rw [List.range_succ, List.map_append, hs, List.map_singleton, pAt_at parts i hi]
  refine ⟨_, hnext.symm, fun h2 => Ev.succ ?_⟩
  have hpl := hp _ (List.getElem_mem hi)
  obtain ⟨p, hpe⟩ : ∃ p, p = parts[i] := ⟨_, rfl⟩
  rw [← hpe] at hg h2 hpl
  simp only [impl_movedParts.l0, hg, show (i : Int) < (parts.length : Int) from by omega, show (0 : Int) ≤ (i : Int) from by omega, if_true]
  refine ev_at p.length (fun t j => t = shiftP (oAt offs i) (p.take j)) _ (fun t j k => impl_movedParts.l1 k offs s (i : Int) t parts (parts.length : Int) (i : Int) p (p.length : Int) j) (fun t hj => ?_) (fun t j hj ht => ?_) [] rfl
  ·refine Ev.succ ?_
   simp only [impl_movedParts.l1, hsl, if_true, hw]
   rw [List.take_length] at hj
   rw [hj]
   simpa using h2
  ·have hgj : rd_T69 p (j : Int) = p[j] := by unfold rd_T69; exact getD_nat p _ j hj
   have hgo : rd_T69 offs (i : Int) = oAt offs i := by
    show offs.getD ((i : Int).toNat) _ = offs.getD i _
    rw [Int.toNat_natCast]
    rfl
   have hwj := wrap_succ j (show j < 9223372036854775807 by omega)
   have htl : t.length < 5864062014805 := by rw [ht]; unfold shiftP; rw [List.length_map, List.length_take]; omega
   refine ⟨t ++ [addC p[j] (oAt offs i)], ?_, fun h3 => Ev.succ ?_⟩
   ·show _ = shiftP _ (p.take (j + 1))
    rw [List.take_succ_eq_append_getElem hj]
    unfold shiftP at ht ⊢
    rw [List.map_append, ht]
    rfl
   ·simp only [impl_movedParts.l1, hgj, hgo, htl, impl_plusCube.f, Option.bind_some, if_true, show (j : Int) < (p.length : Int) from by omega, show (0 : Int) ≤ (j : Int) from by omega, show (i : Int) < (offs.length : Int) from by omega, show (0 : Int) ≤ (i : Int) from by omega, hwj]
    exact h3
theorem allMoved_len (parts : List (List Cb)) (offs : List Cb) : (allMoved parts offs).length = parts.length := by unfold allMoved; simp
theorem shiftP_len (o : Cb) (p : List Cb) : (shiftP o p).length = p.length := List.length_map _
def RowsOk (rows : List (List Cb)) : Prop := 0 < rows.length ∧ rows.length ≤ 8 ∧ ∀ p ∈ rows, 0 < p.length ∧ p.length ≤ 64
theorem allMoved_ok (parts : List (List Cb)) (offs : List Cb) (part : Nat) (hn : 2 ≤ parts.length ∧ parts.length ≤ 8) (hp : ∀ p ∈ parts, 0 < p.length ∧ p.length ≤ 64) (h : part < parts.length) : RowsOk ((allMoved parts offs).eraseIdx part) := by
 refine ⟨by rw [List.length_eraseIdx, allMoved_len, if_pos h]; omega, by rw [List.length_eraseIdx, allMoved_len, if_pos h]; omega, fun p hq => ?_⟩
 have h1 := List.mem_of_mem_eraseIdx hq
 unfold allMoved at h1
 obtain ⟨i, hi, rfl⟩ := List.mem_map.1 h1
 rw [shiftP_len, pAt_at parts i (List.mem_range.1 hi)]
 exact hp _ (List.getElem_mem _)
def mapK {α : Type} (f : α → α) (xs : List α) (k : Nat) : List α := (xs.take k).map f ++ xs.drop k
theorem mapK_all {α : Type} (f : α → α) (xs : List α) : mapK f xs xs.length = xs.map f := by unfold mapK; simp
theorem mapK_len {α : Type} (f : α → α) (xs : List α) (k : Nat) : (mapK f xs k).length = xs.length := by unfold mapK; simp; omega
theorem mapK_set {α : Type} (f : α → α) (xs : List α) (k : Nat) (h : k < xs.length) : (mapK f xs k).set k (f xs[k]) = mapK f xs (k + 1) := by
 unfold mapK
 rw [List.set_append_right _ _ (by simp; omega), List.drop_eq_getElem_cons h, List.take_succ_eq_append_getElem h, List.map_append, List.append_assoc]
 congr 1
 rw [List.length_map, List.length_take, Nat.min_eq_left (Nat.le_of_lt h), Nat.sub_self]
 rfl
theorem mapK_at {α : Type} (f : α → α) (xs : List α) (k : Nat) (h : k < xs.length) : (mapK f xs k)[k]? = some xs[k] := by
 unfold mapK
 rw [List.getElem?_append_right (by simp; omega), List.length_map, List.length_take, Nat.min_eq_left (Nat.le_of_lt h), Nat.sub_self, List.getElem?_drop, Nat.add_zero, List.getElem?_eq_getElem h]
section
attribute [local go_sem] min2_int min_two
theorem Sp.slCell0 {w0 w : World} {rs : List Res} {i e base n c : Nat} {ad : Addr} {xs : List Sl} (h : Sp w0 rs w) (hi : rs[i]? = some (Res.row kSl e base (.slice (some ad) n c) xs)) (hj : 0 < n) : w.cell? ad = some (slV (xs.getD 0 (none, 0, 0))) := by
 have := Sp.slCell h hi 0 hj
 rwa [Addr.add_zero'] at this
theorem Sp.some_ {α : Type} {d : Kd α} {w0 w : World} {rs : List Res} {i e base n c : Nat} {A : Option Addr} {xs : List α} (h : Sp w0 rs w) (hi : rs[i]? = some (Res.row d e base (.slice A n c) xs)) (hn : 0 < n) : ∃ ad, A = some ad := by
 obtain ⟨fp, hp, _⟩ := h.get hi
 have hl := (Kd.R_reads' hp).1
 obtain ⟨g, cap, e, _⟩ := Kd.R_form hp (by omega)
 injection e with e _ _
 exact ⟨_, e⟩
theorem Sp.cubeCell {w0 w : World} {rs : List Res} {i e base n c : Nat} {ad : Addr} {xs : List Cb} (h : Sp w0 rs w) (hi : rs[i]? = some (Res.row kC e base (.slice (some ad) n c) xs)) (j : Nat) (hj : j < n) :
  w.cell? (ad.add (j * 3)) = some (.int .i64 (cAt xs j).f0) ∧ w.cell? ⟨(ad.add (j * 3)).block, (ad.add (j * 3)).off + 1, none⟩ = some (.int .i64 (cAt xs j).f1) ∧ w.cell? ⟨(ad.add (j * 3)).block, (ad.add (j * 3)).off + 2, none⟩ = some (.int .i64 (cAt xs j).f2) := by
 have hn := (Sp.reads h hi).1
 subst hn
 obtain ⟨ad2, e2, h0, h1, h2⟩ := at_T69 (Sp.reads h hi).2.2 (j : Int) (by omega) (by omega)
 injection e2 with e2
 subst e2
 rw [show rd_T69 xs (j : Int) = cAt xs j from rfl] at h0 h1 h2
 rw [Int.toNat_natCast] at h0 h1 h2
 exact ⟨h0, h1, h2⟩
theorem Sp.pickRow {w0 w : World} {a b : Res} {L : List (Sl × List Cb)} {i : Nat} {p : Sl × List Cb} (h : Sp w0 ([a, b] ++ rowsOf w0.heap.size L) w) (hi : L[i]? = some p) :
  Sp w0 ([Res.row kC 69 w0.heap.size (slV p.1) p.2, a, b] ++ (rowsOf w0.heap.size L).eraseIdx i) w := by
 have := Sp.front h (i := i + 2) (r := Res.row kC 69 w0.heap.size (slV p.1) p.2) (by
  show (rowsOf w0.heap.size L)[i]? = _
  unfold rowsOf
  rw [List.getElem?_map, hi]
  rfl)
 exact this
theorem Sp.backRow {w0 w : World} {a b : Res} {L : List (Sl × List Cb)} {i : Nat} {s : Sl} {q : List Cb} (hi : i < L.length) (h : Sp w0 ([Res.row kC 69 w0.heap.size (slV s) q, a, b] ++ (rowsOf w0.heap.size L).eraseIdx i) w) :
  Sp w0 ([a, b] ++ rowsOf w0.heap.size (L.set i (s, q))) w := by
 have := Sp.unfront (rs := [a, b] ++ rowsOf w0.heap.size L) (i := i + 2) (r := Res.row kC 69 w0.heap.size (slV s) q) (by show i + 2 < (rowsOf w0.heap.size L).length + 2; simp only [rowsOf, List.length_map]; omega) h
 have e : ([a, b] ++ rowsOf w0.heap.size L).set (i + 2) (Res.row kC 69 w0.heap.size (slV s) q) = [a, b] ++ rowsOf w0.heap.size (L.set i (s, q)) := by
  unfold rowsOf
  rw [List.map_set]
  rfl
 rwa [e] at this
theorem rows_at {w0 w : World} {a : Res} {rs : List Res} {M : List (Sl × List Cb)} (h : Sp w0 (a :: (rowsOf w0.heap.size M ++ rs)) w) (hok : RowsOk (M.map Prod.snd)) (i : Nat) (hi : i < M.length) :
  ∃ ad c p, M[i]? = some ((some ad, p.length, c), p) ∧ (a :: (rowsOf w0.heap.size M ++ rs))[i + 1]? = some (Res.row kC 69 w0.heap.size (.slice (some ad) p.length c) p) ∧ 0 < p.length ∧ p.length ≤ 64 := by
 obtain ⟨⟨⟨A, n, c⟩, p⟩, hm⟩ : ∃ x, M[i]? = some x := ⟨_, List.getElem?_eq_getElem hi⟩
 have hrow : (a :: (rowsOf w0.heap.size M ++ rs))[i + 1]? = some (Res.row kC 69 w0.heap.size (.slice A n c) p) := by
  rw [List.getElem?_cons_succ, List.getElem?_append_left (by simp only [rowsOf, List.length_map]; exact hi)]
  unfold rowsOf
  rw [List.getElem?_map, hm]
  rfl
 have hp := hok.2.2 p (List.mem_map.2 ⟨_, List.mem_of_getElem? hm, rfl⟩)
 obtain rfl := (Sp.reads h hrow).1
 obtain ⟨ad, rfl⟩ := Sp.some_ h hrow hp.1
 exact ⟨ad, c, p, hm, hrow, hp⟩
theorem Sp.cubeCell0 {w0 w : World} {rs : List Res} {i e base n c : Nat} {ad : Addr} {xs : List Cb} (h : Sp w0 rs w) (hi : rs[i]? = some (Res.row kC e base (.slice (some ad) n c) xs)) (hj : 0 < n) :
  w.cell? ad = some (.int .i64 (cAt xs 0).f0) ∧ w.cell? ⟨ad.block, ad.off + 1, none⟩ = some (.int .i64 (cAt xs 0).f1) ∧ w.cell? ⟨ad.block, ad.off + 2, none⟩ = some (.int .i64 (cAt xs 0).f2) := by
 have := Sp.cubeCell h hi 0 hj
 rwa [Nat.zero_mul, Addr.add_zero'] at this
theorem map_getD {α β : Type} (f : α → β) (M : List α) (i : Nat) (x : α) (d : β) (h : M[i]? = some x) : (M.map f).getD i d = f x := by
 rw [List.getD_eq_getElem?_getD, List.getElem?_map, h]
 rfl
theorem rows_at2 {w0 w : World} {a b : Res} {M : List (Sl × List Cb)} (h : Sp w0 ([a, b] ++ rowsOf w0.heap.size M) w) (hok : RowsOk (M.map Prod.snd)) (i : Nat) (hi : i < M.length) :
  ∃ ad c p, M[i]? = some ((some ad, p.length, c), p) ∧ (0 < p.length ∧ p.length ≤ 64) ∧ Sp w0 ([Res.row kC 69 w0.heap.size (.slice (some ad) p.length c) p, a, b] ++ (rowsOf w0.heap.size M).eraseIdx i) w := by
 obtain ⟨⟨⟨A, n, c⟩, p⟩, hm⟩ : ∃ x, M[i]? = some x := ⟨_, List.getElem?_eq_getElem hi⟩
 have h1 := Sp.pickRow h hm
 have hp := hok.2.2 p (List.mem_map.2 ⟨_, List.mem_of_getElem? hm, rfl⟩)
 have h2 : Sp w0 ([Res.row kC 69 w0.heap.size (.slice A n c) p, a, b] ++ (rowsOf w0.heap.size M).eraseIdx i) w := h1
 obtain rfl := (Sp.reads h2 (i := 0) rfl).1
 obtain ⟨ad, rfl⟩ := Sp.some_ h2 (i := 0) rfl hp.1
 exact ⟨ad, c, p, hm, hp, h2⟩
theorem rowsOk_mapK {rows : List (List Cb)} (h : RowsOk rows) (o : Cb) (i : Nat) : RowsOk (mapK (downP o) rows i) := by
 refine ⟨by rw [mapK_len]; exact h.1, by rw [mapK_len]; exact h.2.1, fun p hp => ?_⟩
 unfold mapK at hp
 rcases List.mem_append.1 hp with hp | hp
 ·obtain ⟨q, hq, rfl⟩ := List.mem_map.1 hp
  unfold downP
  rw [List.length_map]
  exact h.2.2 q (List.mem_of_mem_take hq)
 ·exact h.2.2 p (List.mem_of_mem_drop hp)
theorem set_snd {M : List (Sl × List Cb)} {i : Nat} {s : Sl} {p q : List Cb} (h : M[i]? = some (s, p)) : (M.set i (s, q)).map Prod.fst = M.map Prod.fst ∧ (M.set i (s, q)).map Prod.snd = (M.map Prod.snd).set i q := by
 refine ⟨?_, by rw [List.map_set]⟩
 rw [List.map_set]
 apply List.ext_getElem?
 intro j
 by_cases e : i = j
 ·subst e
  have hl : i < M.length := (List.getElem?_eq_some_iff.1 h).1
  rw [List.getElem?_set_self (by rw [List.length_map]; exact hl), List.getElem?_map, h]
  rfl
 ·rw [List.getElem?_set_ne e]
theorem set_same {M : List (Sl × List Cb)} {i : Nat} {x : Sl × List Cb} (h : M[i]? = some x) : M.set i x = M := by
 apply List.ext_getElem?
 intro j
 by_cases e : i = j
 ·subst e
  rw [List.getElem?_set_self (List.getElem?_eq_some_iff.1 h).1, h]
 ·rw [List.getElem?_set_ne e]
theorem foldM_row (rows : List (List Cb)) (i : Nat) (p : List Cb) (q : Cb) (h : rows[i]? = some p) : (rows.take (i + 1)).foldl (fun a p => p.foldl minC a) q = p.foldl minC ((rows.take i).foldl (fun a p => p.foldl minC a) q) := by
 have hl := (List.getElem?_eq_some_iff.1 h).1
 rw [List.take_succ_eq_append_getElem hl, List.foldl_append, (List.getElem?_eq_some_iff.1 h).2]
 rfl
theorem foldM_cell (p : List Cb) (j : Nat) (q : Cb) (h : j < p.length) : (p.take (j + 1)).foldl minC q = minC ((p.take j).foldl minC q) (cAt p j) := by
 rw [List.take_succ_eq_append_getElem h, List.foldl_append]
 show minC _ p[j] = _
 rw [show cAt p j = p[j] from getD_at p _ j h]
abbrev hdR (base : Nat) (ad : Addr) (n c : Nat) (hs : List Sl) : Res := Res.row kSl 34 base (.slice (some ad) n c) hs
abbrev cbR (g : Nat) (q : Cb) : Res := Res.blk g #[.int .i64 q.f0, .int .i64 q.f1, .int .i64 q.f2] 69
set_option maxHeartbeats 4000000 in
set_option maxRecDepth 100000 in
theorem restOf_calls (Ap : Option Addr) (cp : Nat) (parts : List (List Cb)) (Ao : Option Addr) (co : Nat) (offs : List Cb) (part : Nat) (w : World) (hC : kP.C w Ap parts.length parts) (hcp : parts.length ≤ cp) (hO : kC.C w Ao offs.length offs) (hco : offs.length ≤ co)
  (hol : offs.length = parts.length) (hn : 2 ≤ parts.length ∧ parts.length ≤ 8) (hsz : ∀ p ∈ parts, 0 < p.length ∧ p.length ≤ 64) (hpt : part < parts.length) :
  Calls Try.prog 51 #[.slice Ap parts.length cp, .slice Ao offs.length co, .int .i64 (part : Int)] w fun e w' => ∃ v_ : Value, e = .returned v_ ∧ Kd.S kC2 34 w' w.heap.size (fun _ => True) v_ (restP parts offs part) ∧ Below w.heap.size w w' := by
 have hu69 := Try.underlying69
 have hu34 := Try.underlying34
 have HS := A0_ (Sp.start w)
 obtain ⟨K, hK⟩ := (mparts_ev parts offs (by omega) (by omega) (fun p hp => by have := (hsz p hp).2; omega)).rounds
 have hro := allMoved_ok parts offs part hn hsz hpt
 have hal := allMoved_len parts offs
 have hre : restP parts offs part = backP ((allMoved parts offs).eraseIdx part) := rfl
 have hrl : ((allMoved parts offs).eraseIdx part).length = parts.length - 1 := by rw [List.length_eraseIdx, hal, if_pos hpt]
 obtain ⟨all, hall⟩ : ∃ all, all = allMoved parts offs := ⟨_, rfl⟩
 rw [← hall] at hK hro hal hre hrl
 obtain ⟨rows, hrows⟩ : ∃ rows, rows = all.eraseIdx part := ⟨_, rfl⟩
 rw [← hrows] at hro hre hrl
 have HC := A0_ hC
 have HCP := A0_ hcp
 have HO := A0_ hO
 have HCO := A0_ hco
 have HK := A0_ hK
 have HRO := A0_ hro
 have HRE := A0_ hre
 have HAL := A0_ hal
 have HRL := A0_ hrl
 have HPT := A0_ hpt
 have HRW := A0_ hrows
 have HWP := A0_ (show wrap64 ((part : Int) + 1) = (part : Int) + 1 by rw [wrap_succ part (by omega)]; omega)
 clear hC hcp hO hco hK hro hre hal hrl hall hrows hol hn hsz hpt
 go_enter Try.func51, Try.ntmps51
 go_wp2_with (first
  | (go_at_call 74; go_loud (refine (impl_movedParts.calls K Ap cp parts Ao co offs all _ HC.out HCP.out HO.out HCO.out HK.out).mono ?_; rintro e wi_ ⟨v_, rfl, hs_, hb_⟩; obtain ⟨L, hL, hsp⟩ := Sp.split HS.out hb_ hs_; replace HS := A0_ (hsp); have HL := A0_ hL; obtain ⟨A1, c1, rfl⟩ := Sp.slice HS.out (i := 0) rfl; have HLN := A0_ (show L.length = all.length by rw [← hL, List.length_map]); rw [List.length_map] at HS ⊢; clear hsp hL hs_ hb_))
  | (go_at_call 73; go_loud (rw [HWP.out]; refine (delSl_calls w A1 L.length c1 (L.map Prod.fst) (rowsOf w.heap.size L ++ []) part (by rw [List.length_map, HLN.out, HAL.out]; exact HPT.out) _ (List.length_map _).symm HS.out).mono ?_; rintro e wi_ ⟨rfl, hs_⟩; rw [erase_fst] at hs_; replace HS := A0_ (Sp.dropRow hs_ (by rw [HLN.out, HAL.out]; exact HPT.out)); clear hs_; rw [show L.length - 1 = rows.length by rw [HLN.out, HAL.out, HRL.out]] at HS ⊢; have HM := A0_ (show (L.eraseIdx part).map Prod.snd = rows by rw [← erase_map, HL.out, HRW.out]); generalize L.eraseIdx part = M at HS HM; clear HL HLN; obtain ⟨ad1, e1⟩ := Sp.some_ HS.out (i := 0) rfl HRO.out.1; subst e1; have hh0 := Sp.slCell0 HS.out (i := 0) rfl HRO.out.1; have hml : M.length = rows.length := (by rw [← HM.out, List.length_map]); have hmo : RowsOk (M.map Prod.snd) := HM.out.symm ▸ HRO.out; have hm1 : 0 < M.length := hml.symm ▸ HRO.out.1; obtain ⟨ad2, c2, p0_, hm0, hr0, hp0⟩ := rows_at HS.out hmo 0 hm1; clear hmo hm1; rw [map_getD Prod.fst M 0 _ _ hm0] at hh0; replace hh0 : wi_.cell? ad1 = some (.slice (some ad2) p0_.length c2) := hh0; obtain ⟨hx0, hx1, hx2⟩ := Sp.cubeCell0 HS.out hr0 hp0.1; have p0 : (0 < rows.length) = True := eq_true HRO.out.1; have p1 : (0 < p0_.length) = True := eq_true hp0.1; have HQ := A0_ (show cAt (rows.getD 0 []) 0 = cAt p0_ 0 by rw [← HM.out, map_getD Prod.snd M 0 _ _ hm0]); have HML := A0_ hml; generalize cAt p0_ 0 = q0 at hx0 hx1 hx2 HQ; clear hml hm0 hr0 hp0)))
 obtain ⟨gl, hg_⟩ : ∃ g_, g_ = (wi_).heap.size := ⟨_, rfl⟩; obtain ⟨wq, hw_⟩ : ∃ w_, w_ = (wi_).alloc (.cells #[.int .i64 q0.f0, .int .i64 q0.f1, .int .i64 q0.f2] 69) := ⟨_, rfl⟩; (try rw [← hw_]); (try rw [← hg_]); have HS_ := A0_ (Sp.box HS.out #[.int .i64 q0.f0, .int .i64 q0.f1, .int .i64 q0.f2] 69); rw [← hw_, ← hg_] at HS_; clear HS; have HS := HS_; clear HS_ hw_ hg_
 have HS_ := Sp.swap HS.out
 rw [List.append_nil] at HS_
 obtain ⟨hs, hhs⟩ : ∃ hs, hs = M.map Prod.fst := ⟨_, rfl⟩
 rw [← hhs] at HS_
 have HHS := A0_ hhs
 clear HS hx0 hx1 hx2 hh0 hhs HC HCP HO HCO HK HAL HRL HPT HRW HWP p1
 have HS : Aside0 (Sp w ([hdR w.heap.size ad1 rows.length c1 hs, cbR gl q0] ++ rowsOf w.heap.size M) wq) := A0_ HS_
 clear HS_
 go_loopg [31] (rows.length + 1) (fun kq v31 w' => ∃ (i : Nat) (q : Cb), v31 = .int .i64 (i : Int) ∧ Aside0 (i ≤ rows.length ∧ kq + i = rows.length + 1 ∧ q = (rows.take i).foldl (fun a p => p.foldl minC a) q0) ∧ Aside0 (Sp w ([hdR w.heap.size ad1 rows.length c1 hs, cbR gl q] ++ rowsOf w.heap.size M) w'))
 case atStart => exact ⟨0, q0, rfl, ⟨by omega, by omega, rfl⟩, HS⟩
 case round =>
  clear HS
  obtain ⟨i, q, rfl, HX, HS⟩ := hrel
  obtain ⟨k1, rfl⟩ : ∃ k1, gk = k1 + 1 := ⟨gk - 1, by have := HX.out; omega⟩
  by_cases ci : i < rows.length
  ·have ci0 : decide (i < rows.length) = true := decide_eq_true ci
   have q1 : (0 ≤ (i : Int)) = True := eq_true (by omega)
   have q2 : ((i : Int) < (rows.length : Int)) = True := eq_true (by omega)
   have q3 : (i < rows.length) = True := eq_true ci
   have HW := A0_ (wrap_succ i (by have := HRO.out.2.1; omega))
   have hh := Sp.slCell HS.out (i := 0) rfl i ci
   obtain ⟨adi, cc, p, hm, hp, hsp⟩ := rows_at2 HS.out (HM.out.symm ▸ HRO.out) i (by rw [HML.out]; exact ci)
   rw [HHS.out, map_getD Prod.fst M i _ _ hm] at hh
   replace hh : wr.cell? (ad1.add i) = some (.slice (some adi) p.length cc) := hh
   have hri : rows[i]? = some p := by rw [← HM.out, List.getElem?_map, hm]; rfl
   have HFN := A0_ (foldM_row rows i p q0 hri)
   rw [← HX.out.2.2] at HFN
   have HPM := A0_ hm
   have HP := A0_ hp
   have HCI := A0_ ci
   obtain ⟨RS, hRS⟩ : ∃ RS, RS = (rowsOf w.heap.size M).eraseIdx i := ⟨_, rfl⟩
   rw [← hRS] at hsp
   have HRS := A0_ hRS
   clear HS
   have HS := A0_ hsp
   clear ci hm hp hri hRS hsp
   go_wp2
   go_loopg [37] (p.length + 1) (fun kq v37 w' => ∃ (j : Nat) (r : Cb), v37 = .int .i64 (j : Int) ∧ Aside0 (j ≤ p.length ∧ kq + j = p.length + 1 ∧ r = (p.take j).foldl minC q) ∧ Aside0 (Sp w ([Res.row kC 69 w.heap.size (.slice (some adi) p.length cc) p, hdR w.heap.size ad1 rows.length c1 hs, cbR gl r] ++ RS) w'))
   case atStart => exact ⟨0, q, rfl, ⟨by omega, by omega, rfl⟩, HS⟩
   case round =>
    clear HS hh
    obtain ⟨j, r, rfl, HY, HS⟩ := hrel
    obtain ⟨k2, rfl⟩ : ∃ k2, gk = k2 + 1 := ⟨gk - 1, by have := HY.out; omega⟩
    by_cases cj : j < p.length
    ·have cj0 : decide (j < p.length) = true := decide_eq_true cj
     have r1 : (0 ≤ (j : Int)) = True := eq_true (by omega)
     have r2 : ((j : Int) < (p.length : Int)) = True := eq_true (by omega)
     have r3 : (j < p.length) = True := eq_true cj
     have HWJ := A0_ (wrap_succ j (by have := HP.out.2; omega))
     have HCJ := A0_ cj
     obtain ⟨hx0, hx1, hx2⟩ := Sp.cubeCell HS.out (i := 0) rfl j cj
     have HFC := A0_ (foldM_cell p j q cj)
     rw [← HY.out.2.2] at HFC
     obtain ⟨c, hc⟩ : ∃ c, c = cAt p j := ⟨_, rfl⟩
     rw [← hc] at hx0 hx1 hx2 HFC
     clear cj hc
     go_wp2_with (first
      | ((with_reducible refine gate_dst (N := 12) rfl ?_); refine be_ (N := 12) (cs := #[.int .i64 0, .int .i64 0, .int .i64 0]) (t := 69) ?_; intro gc hgb_ wb_ hcb_ hbb_; replace HS := A0_ (Sp.boxed HS.out hgb_ hcb_ hbb_); clear hgb_ hcb_ hbb_; clear hx0 hx1 hx2)
      | ((with_reducible refine gate_store (t := 69) (p := 12) rfl ?_); refine store_event rfl rfl rfl (exec_store (v := .pointer (some ⟨gc, 0, none⟩)) (u := (vC c)) rfl ?hp ?hx (Sp.blkStore HS.out (i := 0) rfl ((vC c)) (#[.int .i64 c.f0, .int .i64 c.f1, .int .i64 c.f2]) rfl rfl (by kernel_rfl) (by first | (simp; done) | (simp [Value.oneCell']; done) | (simp; exact ⟨rfl, rfl, rfl⟩)))) ?_; (case hp => first | rfl | (go_simp; done) | (go_simp; rfl)); (case hx => first | rfl | (go_simp; done) | (go_simp; rfl)); intro ws_ hw_; have HS_ := A0_ (Sp.blkAll HS.out (i := 0) rfl (#[.int .i64 c.f0, .int .i64 c.f1, .int .i64 c.f2]) rfl); rw [← hw_] at HS_; clear HS hw_; have HS := HS_; clear HS_; have hc0 := (cl_ HS 0 0 rfl).trans rfl; have hc1 := (cl_ HS 0 1 rfl).trans rfl; have hc2 := (cl_ HS 0 2 rfl).trans rfl; have hg0 := (cl_ HS 3 0 rfl).trans rfl; have hg1 := (cl_ HS 3 1 rfl).trans rfl; have hg2 := (cl_ HS 3 2 rfl).trans rfl)
      | ((with_reducible refine gate_store (t := 69) (p := 8) rfl ?_); refine store_event rfl rfl rfl (exec_store (v := .pointer (some ⟨gl, 0, none⟩)) (u := (vC (minC r c))) rfl ?hp ?hx (Sp.blkStore HS.out (i := 3) rfl ((vC (minC r c))) (#[.int .i64 (minC r c).f0, .int .i64 (minC r c).f1, .int .i64 (minC r c).f2]) rfl rfl (by kernel_rfl) (by first | (simp; done) | (simp [Value.oneCell']; done) | (simp; exact ⟨rfl, rfl, rfl⟩)))) ?_; (case hp => first | rfl | (go_simp; done) | (go_simp; rfl)); (case hx => first | rfl | (go_simp; done) | (go_simp; rfl)); intro ws_ hw_; have HS_ := A0_ (Sp.blkAll HS.out (i := 3) rfl (#[.int .i64 (minC r c).f0, .int .i64 (minC r c).f1, .int .i64 (minC r c).f2]) rfl); rw [← hw_] at HS_; clear HS hw_; have HS := HS_; clear HS_; clear hc0 hc1 hc2 hg0 hg1 hg2))
     all_goals
      go_roundg k2
      case measure => omega
      case rel =>
       rw [HWJ.out]
       exact ⟨j + 1, minC r c, rfl, ⟨by have := HCJ.out; omega, by have := HY.out; omega, HFC.out.symm⟩, ⟨Sp.out HS.out 0⟩⟩
    ·have cj0 : decide (j < p.length) = false := decide_eq_false cj
     have r2 : ((j : Int) < (p.length : Int)) = False := eq_false (by omega)
     have r3 : (j < p.length) = False := eq_false cj
     have hj : j = p.length := by have := HY.out; omega
     have HR := A0_ (show r = p.foldl minC q by rw [HY.out.2.2, hj, List.take_length])
     clear cj hj
     go_wp2
     go_roundg k1
     case measure => omega
     case rel =>
      rw [HW.out]
      have hb := HS.out
      rw [HRS.out] at hb
      have hb2 := Sp.backRow (s := (some adi, p.length, cc)) (by have := HCI.out; have := HML.out; omega) hb
      rw [set_same HPM.out] at hb2
      exact ⟨i + 1, r, rfl, ⟨by have := HCI.out; omega, by have := HX.out; omega, by rw [HR.out]; exact HFN.out.symm⟩, ⟨hb2⟩⟩
  ·have ci0 : decide (i < rows.length) = false := decide_eq_false ci
   have q2 : ((i : Int) < (rows.length : Int)) = False := eq_false (by omega)
   have q3 : (i < rows.length) = False := eq_false ci
   have hi : i = rows.length := by have := HX.out; omega
   have HQL := A0_ (show q = leastP rows by rw [HX.out.2.2, hi, List.take_length]; unfold leastP; rw [HQ.out])
   clear ci hi HX p0
   go_wp2
   clear ci0 q2 q3
   have HMO := A0_ (rowsOk_mapK (HM.out.symm ▸ HRO.out : RowsOk (M.map Prod.snd)) q)
   rw [HM.out] at HMO
   go_loopg [61] (rows.length + 1) (fun kq v61 w' => ∃ (i : Nat) (M2 : List (Sl × List Cb)), v61 = .int .i64 (i : Int) ∧ Aside0 (i ≤ rows.length ∧ kq + i = rows.length + 1 ∧ M2.map Prod.fst = hs ∧ M2.map Prod.snd = mapK (downP q) rows i) ∧ Aside0 (Sp w ([hdR w.heap.size ad1 rows.length c1 hs, cbR gl q] ++ rowsOf w.heap.size M2) w'))
   case atStart => exact ⟨0, M, rfl, ⟨by omega, by omega, HHS.out.symm, by rw [HM.out]; rfl⟩, HS⟩
   case round =>
    clear HS
    obtain ⟨i, M2, rfl, HX, HS⟩ := hrel
    obtain ⟨k1, rfl⟩ : ∃ k1, gk = k1 + 1 := ⟨gk - 1, by have := HX.out; omega⟩
    by_cases ci : i < rows.length
    ·have ci0 : decide (i < rows.length) = true := decide_eq_true ci
     have q1 : (0 ≤ (i : Int)) = True := eq_true (by omega)
     have q2 : ((i : Int) < (rows.length : Int)) = True := eq_true (by omega)
     have q3 : (i < rows.length) = True := eq_true ci
     have HW := A0_ (wrap_succ i (by have := HRO.out.2.1; omega))
     have hm2 : M2.length = rows.length := by have := congrArg List.length HX.out.2.2.2; rwa [List.length_map, mapK_len] at this
     have hh := Sp.slCell HS.out (i := 0) rfl i ci
     obtain ⟨adi, cc, p, hm, hp, hsp⟩ := rows_at2 HS.out (HX.out.2.2.2.symm ▸ HMO.out i) i (by rw [hm2]; exact ci)
     rw [← HX.out.2.2.1, map_getD Prod.fst M2 i _ _ hm] at hh
     replace hh : wr.cell? (ad1.add i) = some (.slice (some adi) p.length cc) := hh
     have hpr : rows[i] = p := by
      have h1 := mapK_at (downP q) rows i ci
      rw [← HX.out.2.2.2, List.getElem?_map, hm] at h1
      exact (Option.some.inj h1).symm
     have hst := set_snd (q := downP q p) hm
     have HSF := A0_ (hst.1.trans HX.out.2.2.1)
     have HSS := A0_ (show (M2.set i ((some adi, p.length, cc), downP q p)).map Prod.snd = mapK (downP q) rows (i + 1) by rw [hst.2, HX.out.2.2.2, ← hpr]; exact mapK_set (downP q) rows i ci)
     have HP := A0_ hp
     have HCI := A0_ (show i < M2.length by rw [hm2]; exact ci)
     have HCR := A0_ ci
     obtain ⟨RS, hRS⟩ : ∃ RS, RS = (rowsOf w.heap.size M2).eraseIdx i := ⟨_, rfl⟩
     rw [← hRS] at hsp
     have HRS := A0_ hRS
     clear HS
     have HS := A0_ hsp
     clear ci hm hp hRS hsp hpr hst hm2
     go_wp2
     go_loopg [67] (p.length + 1) (fun kq v67 w' => ∃ (j : Nat), v67 = .int .i64 (j : Int) ∧ Aside0 (j ≤ p.length ∧ kq + j = p.length + 1) ∧ Aside0 (Sp w ([Res.row kC 69 w.heap.size (.slice (some adi) p.length cc) (mapK (fun c => subC c q) p j), hdR w.heap.size ad1 rows.length c1 hs, cbR gl q] ++ RS) w'))
     case atStart => exact ⟨0, rfl, ⟨by omega, by omega⟩, HS⟩
     case round =>
      clear HS hh
      obtain ⟨j, rfl, HY, HS⟩ := hrel
      obtain ⟨k2, rfl⟩ : ∃ k2, gk = k2 + 1 := ⟨gk - 1, by have := HY.out; omega⟩
      by_cases cj : j < p.length
      ·have cj0 : decide (j < p.length) = true := decide_eq_true cj
       have r1 : (0 ≤ (j : Int)) = True := eq_true (by omega)
       have r2 : ((j : Int) < (p.length : Int)) = True := eq_true (by omega)
       have r3 : (j < p.length) = True := eq_true cj
       have HWJ := A0_ (wrap_succ j (by have := HP.out.2; omega))
       have HCJ := A0_ cj
       obtain ⟨hx0, hx1, hx2⟩ := Sp.cubeCell HS.out (i := 0) rfl j cj
       have HFC := A0_ (mapK_set (fun c => subC c q) p j cj)
       rw [show cAt (mapK (fun c => subC c q) p j) j = p[j] by rw [show cAt (mapK (fun c => subC c q) p j) j = ((mapK (fun c => subC c q) p j)[j]?).getD ⟨0, 0, 0⟩ from List.getD_eq_getElem?_getD, mapK_at _ p j cj]; rfl] at hx0 hx1 hx2
       obtain ⟨c, hc⟩ : ∃ c, c = p[j] := ⟨_, rfl⟩
       rw [← hc] at hx0 hx1 hx2 HFC
       clear cj hc
       have hg0 := (cl_ HS 2 0 rfl).trans rfl; have hg1 := (cl_ HS 2 1 rfl).trans rfl; have hg2 := (cl_ HS 2 2 rfl).trans rfl
       go_wp2_with (first
        | ((with_reducible refine gate_dst (N := 16) rfl ?_); refine be_ (N := 16) (cs := #[.int .i64 0, .int .i64 0, .int .i64 0]) (t := 69) ?_; intro gc hgb_ wb_ hcb_ hbb_; replace HS := A0_ (Sp.boxed HS.out hgb_ hcb_ hbb_); clear hgb_ hcb_ hbb_; clear hx0 hx1 hx2)
        | ((with_reducible refine gate_store (t := 69) (p := 16) rfl ?_); refine store_event rfl rfl rfl (exec_store (v := .pointer (some ⟨gc, 0, none⟩)) (u := (vC c)) rfl ?hp ?hx (Sp.blkStore HS.out (i := 0) rfl ((vC c)) (#[.int .i64 c.f0, .int .i64 c.f1, .int .i64 c.f2]) rfl rfl (by kernel_rfl) (by first | (simp; done) | (simp [Value.oneCell']; done) | (simp; exact ⟨rfl, rfl, rfl⟩)))) ?_; (case hp => first | rfl | (go_simp; done) | (go_simp; rfl)); (case hx => first | rfl | (go_simp; done) | (go_simp; rfl)); intro ws_ hw_; have HS_ := A0_ (Sp.blkAll HS.out (i := 0) rfl (#[.int .i64 c.f0, .int .i64 c.f1, .int .i64 c.f2]) rfl); rw [← hw_] at HS_; clear HS hw_; have HS := HS_; clear HS_; have hc0 := (cl_ HS 0 0 rfl).trans rfl; have hc1 := (cl_ HS 0 1 rfl).trans rfl; have hc2 := (cl_ HS 0 2 rfl).trans rfl; have hg0 := (cl_ HS 3 0 rfl).trans rfl; have hg1 := (cl_ HS 3 1 rfl).trans rfl; have hg2 := (cl_ HS 3 2 rfl).trans rfl)
        | (go_at_call 75; go_loud (refine (impl_minusCube.calls c.f0 c.f1 c.f2 q.f0 q.f1 q.f2 (subC c q).f0 (subC c q).f1 (subC c q).f2 _ rfl).mono ?_; rintro e wc_ ⟨rfl, hb_⟩; replace HS := A0_ (Sp.far HS.out hb_); clear hb_ hc0 hc1 hc2 hg0 hg1 hg2; replace HS := A0_ (Sp.out HS.out 0)))
        | ((with_reducible refine gate_store (t := 69) (p := 77) rfl ?_); refine store_event rfl rfl rfl (exec_store (v := .pointer (some (adi.add (j * 3)))) (u := vC (subC c q)) rfl ?hp ?hx (Sp.rowStoreA HS.out (i := 0) rfl j HCJ.out 69 (vC (subC c q)) (cellsC (subC c q)) rfl rfl (by kernel_rfl) (fun q hq => cells_one _ q hq))) ?_; (case hp => first | rfl | (go_simp; done) | (go_simp; rfl)); (case hx => first | rfl | (go_simp; done) | (go_simp; rfl)); intro ws_ hw_; have HS_ := A0_ (Sp.rowSetA HS.out (i := 0) rfl j HCJ.out (subC c q) (cellsC (subC c q)) rfl (fun okp => k69_mkM _ _ _ (subC c q))); rw [← hw_] at HS_; clear HS hw_; have HS := HS_; clear HS_))
       go_roundg k2
       case measure => omega
       case rel =>
        rw [HWJ.out]
        exact ⟨j + 1, rfl, ⟨by have := HCJ.out; omega, by have := HY.out; omega⟩, ⟨by rw [← HFC.out]; exact HS.out⟩⟩
      ·have cj0 : decide (j < p.length) = false := decide_eq_false cj
       have r2 : ((j : Int) < (p.length : Int)) = False := eq_false (by omega)
       have r3 : (j < p.length) = False := eq_false cj
       have hj : j = p.length := by have := HY.out; omega
       have HS_ := HS.out
       rw [hj, mapK_all, HRS.out] at HS_
       have hb2 := A0_ (Sp.backRow (s := (some adi, p.length, cc)) (q := downP q p) HCI.out HS_)
       clear HS HS_ cj hj
       go_wp2
       go_roundg k1
       case measure => omega
       case rel =>
        rw [HW.out]
        exact ⟨i + 1, _, rfl, ⟨by have := HCR.out; omega, by have := HX.out; omega, HSF.out, HSS.out⟩, ⟨hb2.out⟩⟩
    ·have ci0 : decide (i < rows.length) = false := decide_eq_false ci
     have q2 : ((i : Int) < (rows.length : Int)) = False := eq_false (by omega)
     have q3 : (i < rows.length) = False := eq_false ci
     have hi : i = rows.length := by have := HX.out; omega
     have HEN := A0_ (show M2.map Prod.snd = backP rows by rw [HX.out.2.2.2, hi, mapK_all, HQL.out]; rfl)
     clear ci hi
     go_wp2
     go_ret
     rw [HRE.out, ← HEN.out]
     have h1 := Sp.out HS.out 1
     refine ⟨_, rfl, Sp.joinRows (rs := []) ?_, HS.out.below⟩
     rw [HX.out.2.2.1, List.append_nil]
     exact h1
end
theorem inCb_iff (c : Cb) (lo hi : Int) : inCb c lo hi = true ↔ (lo ≤ c.f0 ∧ c.f0 ≤ hi) ∧ (lo ≤ c.f1 ∧ c.f1 ≤ hi) ∧ (lo ≤ c.f2 ∧ c.f2 ≤ hi) := by
 unfold inCb inR
 simp only [Bool.and_eq_true, decide_eq_true_eq]
theorem addC_small {a b : Cb} (ha : inCb a (-200) 200 = true) (hb : inCb b (-200) 200 = true) : addC a b = ⟨a.f0 + b.f0, a.f1 + b.f1, a.f2 + b.f2⟩ := by
 rw [inCb_iff] at ha hb
 unfold addC
 rw [wrap_id (by omega) (by omega), wrap_id (by omega) (by omega), wrap_id (by omega) (by omega)]
theorem subC_small {a b : Cb} (ha : inCb a (-200) 200 = true) (hb : inCb b (-200) 200 = true) : subC a b = ⟨a.f0 - b.f0, a.f1 - b.f1, a.f2 - b.f2⟩ := by
 rw [inCb_iff] at ha hb
 unfold subC
 rw [wrap_id (by omega) (by omega), wrap_id (by omega) (by omega), wrap_id (by omega) (by omega)]
theorem inCb_mono {c : Cb} {lo hi lo' hi' : Int} (h : inCb c lo hi = true) (h1 : lo' ≤ lo) (h2 : hi ≤ hi') : inCb c lo' hi' = true := by
 rw [inCb_iff] at h ⊢
 omega
theorem pair_wide (Pi Pj : List Cb) (oi oj : Cb) (hi : ∀ c ∈ Pi, inCb c 0 7 = true) (hj : ∀ c ∈ Pj, inCb c 0 7 = true) (h1 : inCb oi (-60) 60 = true) (h2 : inCb oj (-60) 60 = true) :
  ((Pi.map fun c => addC c oi).any fun c => (Pj.map fun c => addC c oj).contains c) = (inCb (subC oi oj) (-7) 7 && meets Pj Pi (subC oi oj)) := by
 have b1 := inCb_mono h1 (show (-200 : Int) ≤ -60 by omega) (show (60 : Int) ≤ 200 by omega)
 have b2 := inCb_mono h2 (show (-200 : Int) ≤ -60 by omega) (show (60 : Int) ≤ 200 by omega)
 have hd := subC_small b1 b2
 have hdb : inCb (subC oi oj) (-200) 200 = true := by
  rw [hd, inCb_iff]
  rw [inCb_iff] at h1 h2
  dsimp only
  omega
 rw [Bool.eq_iff_iff, Bool.and_eq_true, List.any_eq_true]
 unfold meets
 rw [List.any_eq_true]
 constructor
 ·rintro ⟨x, hx, hc⟩
  rw [List.mem_map] at hx
  obtain ⟨c, hcm, rfl⟩ := hx
  rw [List.contains_iff_mem, List.mem_map] at hc
  obtain ⟨c', hcm', e⟩ := hc
  have g1 := hi c hcm
  have g2 := hj c' hcm'
  have s1 := inCb_mono g1 (show (-200 : Int) ≤ 0 by omega) (show (7 : Int) ≤ 200 by omega)
  have s2 := inCb_mono g2 (show (-200 : Int) ≤ 0 by omega) (show (7 : Int) ≤ 200 by omega)
  rw [addC_small s2 b2, addC_small s1 b1] at e
  have e0 : c'.f0 + oj.f0 = c.f0 + oi.f0 := congrArg S69.f0 e
  have e1 : c'.f1 + oj.f1 = c.f1 + oi.f1 := congrArg S69.f1 e
  have e2 : c'.f2 + oj.f2 = c.f2 + oi.f2 := congrArg S69.f2 e
  rw [inCb_iff] at g1 g2
  refine ⟨?_, c, hcm, ?_⟩
  ·rw [hd, inCb_iff]
   dsimp only
   omega
  ·rw [List.contains_iff_mem, addC_small s1 hdb, hd]
   have : (⟨c.f0 + (oi.f0 - oj.f0), c.f1 + (oi.f1 - oj.f1), c.f2 + (oi.f2 - oj.f2)⟩ : Cb) = c' := by
    rcases c' with ⟨a0, a1, a2⟩
    dsimp only at e0 e1 e2
    rw [show c.f0 + (oi.f0 - oj.f0) = a0 by omega, show c.f1 + (oi.f1 - oj.f1) = a1 by omega, show c.f2 + (oi.f2 - oj.f2) = a2 by omega]
   dsimp only
   rw [this]
   exact hcm'
 ·rintro ⟨_, c, hcm, hc⟩
  rw [List.contains_iff_mem] at hc
  have g1 := hi c hcm
  have s1 := inCb_mono g1 (show (-200 : Int) ≤ 0 by omega) (show (7 : Int) ≤ 200 by omega)
  have g2 := hj _ hc
  have s2 := inCb_mono g2 (show (-200 : Int) ≤ 0 by omega) (show (7 : Int) ≤ 200 by omega)
  refine ⟨_, List.mem_map.2 ⟨c, hcm, rfl⟩, ?_⟩
  rw [List.contains_iff_mem, List.mem_map]
  refine ⟨_, hc, ?_⟩
  rw [addC_small s2 b2, addC_small s1 hdb, addC_small s1 b1, hd]
  dsimp only
  rw [show c.f0 + (oi.f0 - oj.f0) + oj.f0 = c.f0 + oi.f0 by omega, show c.f1 + (oi.f1 - oj.f1) + oj.f1 = c.f1 + oi.f1 by omega, show c.f2 + (oi.f2 - oj.f2) + oj.f2 = c.f2 + oi.f2 by omega]
theorem pair_same (Pi Pj : List Cb) (oi oj : Cb) (hi : ∀ c ∈ Pi, inCb c 0 7 = true) (hj : ∀ c ∈ Pj, inCb c 0 7 = true) (h1 : inCb oi (-12) 12 = true) (h2 : inCb oj (-12) 12 = true) :
  ((Pi.map fun c => addC c oi).any fun c => (Pj.map fun c => addC c oj).contains c) = (inCb (subC oi oj) (-7) 7 && meets Pj Pi (subC oi oj)) :=
 pair_wide Pi Pj oi oj hi hj (inCb_mono h1 (by omega) (by omega)) (inCb_mono h2 (by omega) (by omega))
def pairT (parts : List (List Cb)) (offs : List Cb) (i j : Nat) : Bool := touchP parts j i (subC (oAt offs i) (oAt offs j))
theorem alone_eq (parts : List (List Cb)) (offs : List Cb) (i : Nat) (hi : i ≤ offs.length) : aloneP parts (offs.take i) i (oAt offs i) = (List.range i).all (fun j => !pairT parts offs i j) := by
 unfold aloneP pairT
 rw [show (offs.take i).length = i by rw [List.length_take]; omega]
 rw [Bool.eq_iff_iff, List.all_eq_true, List.all_eq_true]
 have g : ∀ j, j < i → (offs.take i).getD j ⟨0, 0, 0⟩ = oAt offs j := fun j hj => by
  simp [oAt, List.getD_eq_getElem?_getD, List.getElem?_take, hj]
 constructor
 ·intro h j hj
  have h2 := h j hj
  have hlt := List.mem_range.1 hj
  rw [g j hlt, decide_eq_false (show ¬ (j : Int) = (i : Int) by omega), Bool.false_or] at h2
  exact h2
 ·intro h j hj
  have h2 := h j hj
  have hlt := List.mem_range.1 hj
  rw [g j hlt, decide_eq_false (show ¬ (j : Int) = (i : Int) by omega), Bool.false_or]
  exact h2
def rowC (parts : List (List Cb)) (offs : List Cb) (i : Nat) : Bool := inCb (oAt offs i) (-12) 12 && (List.range i).all (fun k => !pairT parts offs i k)
theorem area_eq (parts : List (List Cb)) (offs : List Cb) : areOffP parts offs = (decide (offs.length = parts.length) && (decide (oAt offs 0 = ⟨0, 0, 0⟩) && (List.range offs.length).all (rowC parts offs))) := by
 unfold areOffP
 congr 2
 unfold clearP
 rw [Bool.eq_iff_iff, Bool.and_eq_true, List.all_eq_true, List.all_eq_true, List.all_eq_true]
 constructor
 ·rintro ⟨h1, h2⟩ i hi
  have hl := List.mem_range.1 hi
  unfold rowC
  rw [← alone_eq parts offs i (by omega), h2 i hi, Bool.and_true]
  have e : oAt offs i = offs[i] := by simp [oAt, List.getD_eq_getElem?_getD, hl]
  rw [e]
  exact h1 _ (List.getElem_mem hl)
 ·intro h
  refine ⟨fun c hc => ?_, fun i hi => ?_⟩
  ·obtain ⟨i, hi, rfl⟩ := List.mem_iff_getElem.1 hc
   have := h i (List.mem_range.2 hi)
   unfold rowC at this
   rw [Bool.and_eq_true] at this
   have e : oAt offs i = offs[i] := by simp [oAt, List.getD_eq_getElem?_getD, hi]
   rw [← e]
   exact this.1
  ·have hl := List.mem_range.1 hi
   have := h i hi
   unfold rowC at this
   rw [Bool.and_eq_true, ← alone_eq parts offs i (by omega)] at this
   exact this.2
section
attribute [local go_sem] max2_int min2_int max_two min_two max_three min_three max_four min_four
def spec_l01In.f (a0 : Int) (a1 : Int) (a2 : Int) : Option (Bool) := if a0 ≥ a1 then (some (decide (a0 ≤ a2))) else (some false)
set_option maxHeartbeats 8000000 in
set_option maxRecDepth 100000 in
theorem spec_l01In.calls (a0 : Int) (a1 : Int) (a2 : Int) (r : Bool) (w : World) (h : spec_l01In.f a0 a1 a2 = some r) :
    Calls Try.prog 45 #[.int .i64 a0, .int .i64 a1, .int .i64 a2] w fun e w' => e = .returned (.bool r) ∧ Drawn0 w w' := by
 (have H : (if a0 ≥ a1 then (some (decide (a0 ≤ a2))) else (some false)) = some r := h); clear h; (by_cases c4 : a0 ≥ a1)
 ·(rw [if_pos c4] at H); (have c4b0 : decide (a1 ≤ a0) = true := decide_eq_true c4); clear c4; (obtain rfl := Option.some.inj H); (go_enter Try.func45, Try.ntmps45); go_wp2; go_ret; (exact ⟨by first | rfl | (simp; done) | (simp [*]; done), by repeat (first | exact Drawn0.refl _ | apply Drawn0.step)⟩)
 ·(rw [if_neg c4] at H); (have c4b0 : decide (a1 ≤ a0) = false := decide_eq_false c4); clear c4; (obtain rfl := Option.some.inj H); (go_enter Try.func45, Try.ntmps45); go_wp2; go_ret; (exact ⟨by first | rfl | (simp; done) | (simp [*]; done), by repeat (first | exact Drawn0.refl _ | apply Drawn0.step)⟩)
end
section
attribute [local go_sem] max2_int min2_int max_two min_two max_three min_three max_four min_four
def spec_l02Cell.f (a0_0 : Int) (a0_1 : Int) : Option (Bool) := (spec_l01In.f a0_0 (-100) 100).bind fun t106 => (if t106 = true then ((spec_l01In.f a0_1 (-100) 100).bind fun t107 => (some t107)) else (some false))
set_option maxHeartbeats 8000000 in
set_option maxRecDepth 100000 in
theorem spec_l02Cell.calls (a0_0 : Int) (a0_1 : Int) (r : Bool) (w : World) (h : spec_l02Cell.f a0_0 a0_1 = some r) :
    Calls Try.prog 118 #[.agg #[.int .i64 a0_0, .int .i64 a0_1]] w fun e w' => e = .returned (.bool r) ∧ Below w.heap.size w w' := by
 (have hu148 := Try.underlying148); (have HB := A0_ (Below.refl w.heap.size w))
 have H : ((spec_l01In.f a0_0 (-100) 100).bind fun t106 => (if t106 = true then ((spec_l01In.f a0_1 (-100) 100).bind fun t107 => (some t107)) else (some false))) = some r := h
 clear h; (replace H := Option.bind_eq_some_iff.mp H); (obtain ⟨t106, A20, H⟩ := H); (try dsimp only at H); (have A2 := A0_ A20); clear A20; (have H0_ := A0_ H); clear H; (go_enter Try.func118, Try.ntmps118); (go_wp2_with (first | ((with_reducible refine gate_dst (N := 1) rfl ?_); refine be_ (N := 1) (cs := #[.int .i64 a0_0, .int .i64 a0_1]) (t := 148) ?_; intro gb105 hg w3 hbox hb; have n0_ := A0_ (below_step bw_ hb); have n1_ := A0_ (hbox); have n2_ := A0_ ((by rw [hg]; exact (below_size bw_) : w.heap.size ≤ gb105)); have n3_ := A0_ ((by rw [hg]; exact (below_size bw_) : w.heap.size ≤ gb105)); clear HB; have HB := n0_; have BK105 := n1_; have GW105 := n2_; have GE105 := n3_; clear n0_ n1_ n2_ n3_; clear hb hbox hg; have hcz4_0 : w3.cell? ⟨gb105, 0, none⟩ = some (.int .i64 a0_0) := (blk_cell BK105.out 0).trans rfl; have hcz4_1 : w3.cell? ⟨gb105, 1, none⟩ = some (.int .i64 a0_1) := (blk_cell BK105.out 1).trans rfl; have hfz4_0 := blk_frozen BK105.out 0; have hfz4_1 := blk_frozen BK105.out 1) | ((with_reducible refine gate_callee (f := 45) rfl ?_); refine goesL_ (some 5) rfl rfl Try.func45 (by kernel_rfl) rfl #[.int .i64 a0_0, .int .i64 (-100), .int .i64 100] rfl (by (try simp only [List.map_toArray, List.map_cons, List.map_nil]); first | done | rfl | (simp only [List.length_drop, List.length_take]; rfl)) ?_; (with_reducible refine (spec_l01In.calls a0_0 (-100) 100 t106 _ A2.out).mono ?_); rintro e w' ⟨rfl, ⟨nd, rfl⟩⟩; refine ⟨_, rfl, ?_⟩; refine Stop0.out ?_))); (refine Stop0.mk ?_); (have H := H0_.out); clear H0_; (by_cases c5 : t106 = true)
 ·subst c5; (have H1 := H); (rw [if_pos rfl] at H1); clear H; (have H := H1); clear H1; (replace H := Option.bind_eq_some_iff.mp H); (obtain ⟨t107, A60, H⟩ := H); (try dsimp only at H); (have A6 := A0_ A60); clear A60; (have H0_ := A0_ H); clear H; (have hcz7_0 : w3.cell? ⟨gb105, 0, none⟩ = some (.int .i64 a0_0) := (blk_cell BK105.out 0).trans rfl); (have hcz7_1 : w3.cell? ⟨gb105, 1, none⟩ = some (.int .i64 a0_1) := (blk_cell BK105.out 1).trans rfl); (have hfz7_0 := blk_frozen BK105.out 0); (have hfz7_1 := blk_frozen BK105.out 1); (go_wp2_with (first | (go_at_call 45; (with_reducible refine (spec_l01In.calls a0_1 (-100) 100 t107 _ A6.out).mono ?_); rintro e w' ⟨rfl, ⟨nd, rfl⟩⟩; refine Stop0.out ?_))); (refine Stop0.mk ?_); (have H := H0_.out); clear H0_; (obtain rfl := Option.some.inj H); go_wp2; go_ret; (exact ⟨er_, bx_⟩)
 ·(replace c5 := Bool.eq_false_iff.mpr c5); subst c5; (have H1 : (some false) = some r := by rw [if_neg (show ¬ (false = true) by decide)] at H; exact H); clear H; (have H := H1); clear H1; (obtain rfl := Option.some.inj H); go_wp2; go_ret; (exact ⟨er_, bx_⟩)
end
end Go.Proofs.Ytlbckkagjekhnaa.A
