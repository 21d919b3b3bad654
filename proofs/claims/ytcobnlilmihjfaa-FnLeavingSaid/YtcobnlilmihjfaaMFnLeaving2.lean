/- What the row of the law FnLeaving stands on, part 2. -/
import Derived.Test.YtcobnlilmihjfaaMFnLeaving1
namespace Go.Proofs.Ytcobnlilmihjfaa.A
open Go.RowKit Go.Proofs.YtcobnlilmihjfaaW.PrintWords Go.Proofs.YtcobnlilmihjfaaW.PrintLast Go.Proofs.YtcobnlilmihjfaaW.PrintMore
set_option linter.unusedVariables false
set_option linter.unusedSimpArgs false
section
attribute [local go_sem] max2_int min2_int max_two min_two max_three min_three max_four min_four
def spec_l09Less.f (a0_0 : Int) (a0_1 : Int) (a0_2 : Int) (a1_0 : Int) (a1_1 : Int) (a1_2 : Int) : Option (Bool) := if a0_2 < a1_2 then (some true) else (if a0_2 = a1_2 then (if a0_1 < a1_1 then (some true) else (if a0_1 = a1_1 then (some (decide (a0_0 < a1_0))) else (some false))) else (some false))
set_option maxHeartbeats 8000000 in
set_option maxRecDepth 100000 in
theorem spec_l09Less.calls (a0_0 : Int) (a0_1 : Int) (a0_2 : Int) (a1_0 : Int) (a1_1 : Int) (a1_2 : Int) (r : Bool) (w : World) (h : spec_l09Less.f a0_0 a0_1 a0_2 a1_0 a1_1 a1_2 = some r) :
    Calls Try.prog 109 #[.agg #[.int .i64 a0_0, .int .i64 a0_1, .int .i64 a0_2], .agg #[.int .i64 a1_0, .int .i64 a1_1, .int .i64 a1_2]] w fun e w' => e = .returned (.bool r) ∧ Below w.heap.size w w' := by
 (have hu94 := Try.underlying94); (have HB := A0_ (Below.refl w.heap.size w)); (have H : (if a0_2 < a1_2 then (some true) else (if a0_2 = a1_2 then (if a0_1 < a1_1 then (some true) else (if a0_1 = a1_1 then (some (decide (a0_0 < a1_0))) else (some false))) else (some false))) = some r := h); clear h; (by_cases c3 : a0_2 < a1_2)
 ·(rw [if_pos c3] at H); (have c3b0 : decide (a0_2 < a1_2) = true := decide_eq_true c3); clear c3; (obtain rfl := Option.some.inj H); (go_enter Try.func109, Try.ntmps109); (go_wp2_with (first | ((with_reducible refine gate_dst (N := 2) rfl ?_); refine be_ (N := 2) (cs := #[.int .i64 a0_0, .int .i64 a0_1, .int .i64 a0_2]) (t := 94) ?_; intro gb125 hg w4 hbox hb; have n0_ := A0_ (below_step bw_ hb); have n1_ := A0_ (hbox); have n2_ := A0_ ((by rw [hg]; exact (below_size bw_) : w.heap.size ≤ gb125)); have n3_ := A0_ ((by rw [hg]; exact (below_size bw_) : w.heap.size ≤ gb125)); clear HB; have HB := n0_; have BK125 := n1_; have GW125 := n2_; have GE125 := n3_; clear n0_ n1_ n2_ n3_; clear hb hbox hg) | ((with_reducible refine gate_dst (N := 3) rfl ?_); refine be_ (N := 3) (cs := #[.int .i64 a1_0, .int .i64 a1_1, .int .i64 a1_2]) (t := 94) ?_; intro gb126 hg w5 hbox hb; have n0_ := A0_ (blk_below (g := gb125) (o := .cells #[.int .i64 a0_0, .int .i64 a0_1, .int .i64 a0_2] 94 (0, 0)) (bk_ BK125) hb); have n1_ := A0_ (below_step bx_ hb); have n2_ := A0_ (hbox); have n3_ := A0_ ((by rw [hg]; exact (below_size bx_) : w.heap.size ≤ gb126)); have n4_ := A0_ ((by rw [hg]; exact (below_size bx_) : w.heap.size ≤ gb126)); have n5_ := A0_ ((by rw [hg]; exact Nat.ne_of_lt (blk_lt (g := gb125) (o := .cells #[.int .i64 a0_0, .int .i64 a0_1, .int .i64 a0_2] 94 (0, 0)) (bk_ BK125)) : gb125 ≠ gb126)); have n6_ := A0_ ((by rw [hg]; exact Nat.ne_of_gt (blk_lt (g := gb125) (o := .cells #[.int .i64 a0_0, .int .i64 a0_1, .int .i64 a0_2] 94 (0, 0)) (bk_ BK125)) : gb126 ≠ gb125)); clear BK125; clear HB; have BK125 := n0_; have HB := n1_; have BK126 := n2_; have GW126 := n3_; have GE126 := n4_; have NB125_126 := n5_; have NB126_125 := n6_; clear n0_ n1_ n2_ n3_ n4_ n5_ n6_; clear hb hbox hg; have hnb6 := NB125_126.out; have hnc6 := NB126_125.out; have hcz7_0 : w5.cell? ⟨gb125, 0, none⟩ = some (.int .i64 a0_0) := (blk_cell BK125.out 0).trans rfl; have hcz7_1 : w5.cell? ⟨gb125, 1, none⟩ = some (.int .i64 a0_1) := (blk_cell BK125.out 1).trans rfl; have hcz7_2 : w5.cell? ⟨gb125, 2, none⟩ = some (.int .i64 a0_2) := (blk_cell BK125.out 2).trans rfl; have hfz7_0 := blk_frozen BK125.out 0; have hfz7_1 := blk_frozen BK125.out 1; have hfz7_2 := blk_frozen BK125.out 2; have hcz8_0 : w5.cell? ⟨gb126, 0, none⟩ = some (.int .i64 a1_0) := (blk_cell BK126.out 0).trans rfl; have hcz8_1 : w5.cell? ⟨gb126, 1, none⟩ = some (.int .i64 a1_1) := (blk_cell BK126.out 1).trans rfl; have hcz8_2 : w5.cell? ⟨gb126, 2, none⟩ = some (.int .i64 a1_2) := (blk_cell BK126.out 2).trans rfl; have hfz8_0 := blk_frozen BK126.out 0; have hfz8_1 := blk_frozen BK126.out 1; have hfz8_2 := blk_frozen BK126.out 2))); go_ret; (exact ⟨er_, bx_⟩)
 ·(rw [if_neg c3] at H); (have c3b0 : decide (a0_2 < a1_2) = false := decide_eq_false c3); clear c3; (by_cases c9 : a0_2 = a1_2)
  ·(rw [if_pos c9] at H); (have c9b0 : (a0_2 == a1_2) = true := beq_iff_eq.mpr c9); (have c9b1 : (a0_2 != a1_2) = false := bne_eq_false_iff_eq.mpr c9); clear c9; (by_cases c10 : a0_1 < a1_1)
   ·(rw [if_pos c10] at H); (have c10b0 : decide (a0_1 < a1_1) = true := decide_eq_true c10); clear c10; (obtain rfl := Option.some.inj H); (go_enter Try.func109, Try.ntmps109); (go_wp2_with (first | ((with_reducible refine gate_dst (N := 2) rfl ?_); refine be_ (N := 2) (cs := #[.int .i64 a0_0, .int .i64 a0_1, .int .i64 a0_2]) (t := 94) ?_; intro gb125 hg w11 hbox hb; have n0_ := A0_ (below_step bw_ hb); have n1_ := A0_ (hbox); have n2_ := A0_ ((by rw [hg]; exact (below_size bw_) : w.heap.size ≤ gb125)); have n3_ := A0_ ((by rw [hg]; exact (below_size bw_) : w.heap.size ≤ gb125)); clear HB; have HB := n0_; have BK125 := n1_; have GW125 := n2_; have GE125 := n3_; clear n0_ n1_ n2_ n3_; clear hb hbox hg) | ((with_reducible refine gate_dst (N := 3) rfl ?_); refine be_ (N := 3) (cs := #[.int .i64 a1_0, .int .i64 a1_1, .int .i64 a1_2]) (t := 94) ?_; intro gb126 hg w12 hbox hb; have n0_ := A0_ (blk_below (g := gb125) (o := .cells #[.int .i64 a0_0, .int .i64 a0_1, .int .i64 a0_2] 94 (0, 0)) (bk_ BK125) hb); have n1_ := A0_ (below_step bx_ hb); have n2_ := A0_ (hbox); have n3_ := A0_ ((by rw [hg]; exact (below_size bx_) : w.heap.size ≤ gb126)); have n4_ := A0_ ((by rw [hg]; exact (below_size bx_) : w.heap.size ≤ gb126)); have n5_ := A0_ ((by rw [hg]; exact Nat.ne_of_lt (blk_lt (g := gb125) (o := .cells #[.int .i64 a0_0, .int .i64 a0_1, .int .i64 a0_2] 94 (0, 0)) (bk_ BK125)) : gb125 ≠ gb126)); have n6_ := A0_ ((by rw [hg]; exact Nat.ne_of_gt (blk_lt (g := gb125) (o := .cells #[.int .i64 a0_0, .int .i64 a0_1, .int .i64 a0_2] 94 (0, 0)) (bk_ BK125)) : gb126 ≠ gb125)); clear BK125; clear HB; have BK125 := n0_; have HB := n1_; have BK126 := n2_; have GW126 := n3_; have GE126 := n4_; have NB125_126 := n5_; have NB126_125 := n6_; clear n0_ n1_ n2_ n3_ n4_ n5_ n6_; clear hb hbox hg; have hnb13 := NB125_126.out; have hnc13 := NB126_125.out; have hcz14_0 : w12.cell? ⟨gb125, 0, none⟩ = some (.int .i64 a0_0) := (blk_cell BK125.out 0).trans rfl; have hcz14_1 : w12.cell? ⟨gb125, 1, none⟩ = some (.int .i64 a0_1) := (blk_cell BK125.out 1).trans rfl; have hcz14_2 : w12.cell? ⟨gb125, 2, none⟩ = some (.int .i64 a0_2) := (blk_cell BK125.out 2).trans rfl; have hfz14_0 := blk_frozen BK125.out 0; have hfz14_1 := blk_frozen BK125.out 1; have hfz14_2 := blk_frozen BK125.out 2; have hcz15_0 : w12.cell? ⟨gb126, 0, none⟩ = some (.int .i64 a1_0) := (blk_cell BK126.out 0).trans rfl; have hcz15_1 : w12.cell? ⟨gb126, 1, none⟩ = some (.int .i64 a1_1) := (blk_cell BK126.out 1).trans rfl; have hcz15_2 : w12.cell? ⟨gb126, 2, none⟩ = some (.int .i64 a1_2) := (blk_cell BK126.out 2).trans rfl; have hfz15_0 := blk_frozen BK126.out 0; have hfz15_1 := blk_frozen BK126.out 1; have hfz15_2 := blk_frozen BK126.out 2))); go_ret; (exact ⟨er_, bx_⟩)
   ·(rw [if_neg c10] at H); (have c10b0 : decide (a0_1 < a1_1) = false := decide_eq_false c10); clear c10; (by_cases c16 : a0_1 = a1_1)
    ·(rw [if_pos c16] at H); (have c16b0 : (a0_1 == a1_1) = true := beq_iff_eq.mpr c16); (have c16b1 : (a0_1 != a1_1) = false := bne_eq_false_iff_eq.mpr c16); clear c16; (obtain rfl := Option.some.inj H); (go_enter Try.func109, Try.ntmps109); (go_wp2_with (first | ((with_reducible refine gate_dst (N := 2) rfl ?_); refine be_ (N := 2) (cs := #[.int .i64 a0_0, .int .i64 a0_1, .int .i64 a0_2]) (t := 94) ?_; intro gb125 hg w17 hbox hb; have n0_ := A0_ (below_step bw_ hb); have n1_ := A0_ (hbox); have n2_ := A0_ ((by rw [hg]; exact (below_size bw_) : w.heap.size ≤ gb125)); have n3_ := A0_ ((by rw [hg]; exact (below_size bw_) : w.heap.size ≤ gb125)); clear HB; have HB := n0_; have BK125 := n1_; have GW125 := n2_; have GE125 := n3_; clear n0_ n1_ n2_ n3_; clear hb hbox hg) | ((with_reducible refine gate_dst (N := 3) rfl ?_); refine be_ (N := 3) (cs := #[.int .i64 a1_0, .int .i64 a1_1, .int .i64 a1_2]) (t := 94) ?_; intro gb126 hg w18 hbox hb; have n0_ := A0_ (blk_below (g := gb125) (o := .cells #[.int .i64 a0_0, .int .i64 a0_1, .int .i64 a0_2] 94 (0, 0)) (bk_ BK125) hb); have n1_ := A0_ (below_step bx_ hb); have n2_ := A0_ (hbox); have n3_ := A0_ ((by rw [hg]; exact (below_size bx_) : w.heap.size ≤ gb126)); have n4_ := A0_ ((by rw [hg]; exact (below_size bx_) : w.heap.size ≤ gb126)); have n5_ := A0_ ((by rw [hg]; exact Nat.ne_of_lt (blk_lt (g := gb125) (o := .cells #[.int .i64 a0_0, .int .i64 a0_1, .int .i64 a0_2] 94 (0, 0)) (bk_ BK125)) : gb125 ≠ gb126)); have n6_ := A0_ ((by rw [hg]; exact Nat.ne_of_gt (blk_lt (g := gb125) (o := .cells #[.int .i64 a0_0, .int .i64 a0_1, .int .i64 a0_2] 94 (0, 0)) (bk_ BK125)) : gb126 ≠ gb125)); clear BK125; clear HB; have BK125 := n0_; have HB := n1_; have BK126 := n2_; have GW126 := n3_; have GE126 := n4_; have NB125_126 := n5_; have NB126_125 := n6_; clear n0_ n1_ n2_ n3_ n4_ n5_ n6_; clear hb hbox hg; have hnb19 := NB125_126.out; have hnc19 := NB126_125.out; have hcz20_0 : w18.cell? ⟨gb125, 0, none⟩ = some (.int .i64 a0_0) := (blk_cell BK125.out 0).trans rfl; have hcz20_1 : w18.cell? ⟨gb125, 1, none⟩ = some (.int .i64 a0_1) := (blk_cell BK125.out 1).trans rfl; have hcz20_2 : w18.cell? ⟨gb125, 2, none⟩ = some (.int .i64 a0_2) := (blk_cell BK125.out 2).trans rfl; have hfz20_0 := blk_frozen BK125.out 0; have hfz20_1 := blk_frozen BK125.out 1; have hfz20_2 := blk_frozen BK125.out 2; have hcz21_0 : w18.cell? ⟨gb126, 0, none⟩ = some (.int .i64 a1_0) := (blk_cell BK126.out 0).trans rfl; have hcz21_1 : w18.cell? ⟨gb126, 1, none⟩ = some (.int .i64 a1_1) := (blk_cell BK126.out 1).trans rfl; have hcz21_2 : w18.cell? ⟨gb126, 2, none⟩ = some (.int .i64 a1_2) := (blk_cell BK126.out 2).trans rfl; have hfz21_0 := blk_frozen BK126.out 0; have hfz21_1 := blk_frozen BK126.out 1; have hfz21_2 := blk_frozen BK126.out 2))); go_ret; (exact ⟨er_, bx_⟩)
    ·(rw [if_neg c16] at H); (have c16b0 : (a0_1 == a1_1) = false := beq_eq_false_iff_ne.mpr c16); (have c16b1 : (a0_1 != a1_1) = true := bne_iff_ne.mpr c16); (obtain rfl := Option.some.inj H); (go_enter Try.func109, Try.ntmps109); (go_wp2_with (first | ((with_reducible refine gate_dst (N := 2) rfl ?_); refine be_ (N := 2) (cs := #[.int .i64 a0_0, .int .i64 a0_1, .int .i64 a0_2]) (t := 94) ?_; intro gb125 hg w22 hbox hb; have n0_ := A0_ (below_step bw_ hb); have n1_ := A0_ (hbox); have n2_ := A0_ ((by rw [hg]; exact (below_size bw_) : w.heap.size ≤ gb125)); have n3_ := A0_ ((by rw [hg]; exact (below_size bw_) : w.heap.size ≤ gb125)); clear HB; have HB := n0_; have BK125 := n1_; have GW125 := n2_; have GE125 := n3_; clear n0_ n1_ n2_ n3_; clear hb hbox hg) | ((with_reducible refine gate_dst (N := 3) rfl ?_); refine be_ (N := 3) (cs := #[.int .i64 a1_0, .int .i64 a1_1, .int .i64 a1_2]) (t := 94) ?_; intro gb126 hg w23 hbox hb; have n0_ := A0_ (blk_below (g := gb125) (o := .cells #[.int .i64 a0_0, .int .i64 a0_1, .int .i64 a0_2] 94 (0, 0)) (bk_ BK125) hb); have n1_ := A0_ (below_step bx_ hb); have n2_ := A0_ (hbox); have n3_ := A0_ ((by rw [hg]; exact (below_size bx_) : w.heap.size ≤ gb126)); have n4_ := A0_ ((by rw [hg]; exact (below_size bx_) : w.heap.size ≤ gb126)); have n5_ := A0_ ((by rw [hg]; exact Nat.ne_of_lt (blk_lt (g := gb125) (o := .cells #[.int .i64 a0_0, .int .i64 a0_1, .int .i64 a0_2] 94 (0, 0)) (bk_ BK125)) : gb125 ≠ gb126)); have n6_ := A0_ ((by rw [hg]; exact Nat.ne_of_gt (blk_lt (g := gb125) (o := .cells #[.int .i64 a0_0, .int .i64 a0_1, .int .i64 a0_2] 94 (0, 0)) (bk_ BK125)) : gb126 ≠ gb125)); clear BK125; clear HB; have BK125 := n0_; have HB := n1_; have BK126 := n2_; have GW126 := n3_; have GE126 := n4_; have NB125_126 := n5_; have NB126_125 := n6_; clear n0_ n1_ n2_ n3_ n4_ n5_ n6_; clear hb hbox hg; have hnb24 := NB125_126.out; have hnc24 := NB126_125.out; have hcz25_0 : w23.cell? ⟨gb125, 0, none⟩ = some (.int .i64 a0_0) := (blk_cell BK125.out 0).trans rfl; have hcz25_1 : w23.cell? ⟨gb125, 1, none⟩ = some (.int .i64 a0_1) := (blk_cell BK125.out 1).trans rfl; have hcz25_2 : w23.cell? ⟨gb125, 2, none⟩ = some (.int .i64 a0_2) := (blk_cell BK125.out 2).trans rfl; have hfz25_0 := blk_frozen BK125.out 0; have hfz25_1 := blk_frozen BK125.out 1; have hfz25_2 := blk_frozen BK125.out 2; have hcz26_0 : w23.cell? ⟨gb126, 0, none⟩ = some (.int .i64 a1_0) := (blk_cell BK126.out 0).trans rfl; have hcz26_1 : w23.cell? ⟨gb126, 1, none⟩ = some (.int .i64 a1_1) := (blk_cell BK126.out 1).trans rfl; have hcz26_2 : w23.cell? ⟨gb126, 2, none⟩ = some (.int .i64 a1_2) := (blk_cell BK126.out 2).trans rfl; have hfz26_0 := blk_frozen BK126.out 0; have hfz26_1 := blk_frozen BK126.out 1; have hfz26_2 := blk_frozen BK126.out 2))); go_ret; (exact ⟨er_, bx_⟩)
  ·(rw [if_neg c9] at H); (have c9b0 : (a0_2 == a1_2) = false := beq_eq_false_iff_ne.mpr c9); (have c9b1 : (a0_2 != a1_2) = true := bne_iff_ne.mpr c9); (obtain rfl := Option.some.inj H); (go_enter Try.func109, Try.ntmps109); (go_wp2_with (first | ((with_reducible refine gate_dst (N := 2) rfl ?_); refine be_ (N := 2) (cs := #[.int .i64 a0_0, .int .i64 a0_1, .int .i64 a0_2]) (t := 94) ?_; intro gb125 hg w27 hbox hb; have n0_ := A0_ (below_step bw_ hb); have n1_ := A0_ (hbox); have n2_ := A0_ ((by rw [hg]; exact (below_size bw_) : w.heap.size ≤ gb125)); have n3_ := A0_ ((by rw [hg]; exact (below_size bw_) : w.heap.size ≤ gb125)); clear HB; have HB := n0_; have BK125 := n1_; have GW125 := n2_; have GE125 := n3_; clear n0_ n1_ n2_ n3_; clear hb hbox hg) | ((with_reducible refine gate_dst (N := 3) rfl ?_); refine be_ (N := 3) (cs := #[.int .i64 a1_0, .int .i64 a1_1, .int .i64 a1_2]) (t := 94) ?_; intro gb126 hg w28 hbox hb; have n0_ := A0_ (blk_below (g := gb125) (o := .cells #[.int .i64 a0_0, .int .i64 a0_1, .int .i64 a0_2] 94 (0, 0)) (bk_ BK125) hb); have n1_ := A0_ (below_step bx_ hb); have n2_ := A0_ (hbox); have n3_ := A0_ ((by rw [hg]; exact (below_size bx_) : w.heap.size ≤ gb126)); have n4_ := A0_ ((by rw [hg]; exact (below_size bx_) : w.heap.size ≤ gb126)); have n5_ := A0_ ((by rw [hg]; exact Nat.ne_of_lt (blk_lt (g := gb125) (o := .cells #[.int .i64 a0_0, .int .i64 a0_1, .int .i64 a0_2] 94 (0, 0)) (bk_ BK125)) : gb125 ≠ gb126)); have n6_ := A0_ ((by rw [hg]; exact Nat.ne_of_gt (blk_lt (g := gb125) (o := .cells #[.int .i64 a0_0, .int .i64 a0_1, .int .i64 a0_2] 94 (0, 0)) (bk_ BK125)) : gb126 ≠ gb125)); clear BK125; clear HB; have BK125 := n0_; have HB := n1_; have BK126 := n2_; have GW126 := n3_; have GE126 := n4_; have NB125_126 := n5_; have NB126_125 := n6_; clear n0_ n1_ n2_ n3_ n4_ n5_ n6_; clear hb hbox hg; have hnb29 := NB125_126.out; have hnc29 := NB126_125.out; have hcz30_0 : w28.cell? ⟨gb125, 0, none⟩ = some (.int .i64 a0_0) := (blk_cell BK125.out 0).trans rfl; have hcz30_1 : w28.cell? ⟨gb125, 1, none⟩ = some (.int .i64 a0_1) := (blk_cell BK125.out 1).trans rfl; have hcz30_2 : w28.cell? ⟨gb125, 2, none⟩ = some (.int .i64 a0_2) := (blk_cell BK125.out 2).trans rfl; have hfz30_0 := blk_frozen BK125.out 0; have hfz30_1 := blk_frozen BK125.out 1; have hfz30_2 := blk_frozen BK125.out 2; have hcz31_0 : w28.cell? ⟨gb126, 0, none⟩ = some (.int .i64 a1_0) := (blk_cell BK126.out 0).trans rfl; have hcz31_1 : w28.cell? ⟨gb126, 1, none⟩ = some (.int .i64 a1_1) := (blk_cell BK126.out 1).trans rfl; have hcz31_2 : w28.cell? ⟨gb126, 2, none⟩ = some (.int .i64 a1_2) := (blk_cell BK126.out 2).trans rfl; have hfz31_0 := blk_frozen BK126.out 0; have hfz31_1 := blk_frozen BK126.out 1; have hfz31_2 := blk_frozen BK126.out 2))); go_ret; (exact ⟨er_, bx_⟩)
end
end Go.Proofs.Ytcobnlilmihjfaa.A


namespace Go.Proofs.Ytcobnlilmihjfaa.A
open Go.RowKit Go.Proofs.YtcobnlilmihjfaaW.PrintWords Go.Proofs.YtcobnlilmihjfaaW.PrintLast Go.Proofs.YtcobnlilmihjfaaW.PrintMore
set_option linter.unusedVariables false
set_option linter.unusedSimpArgs false
abbrev Sl := Option Addr × Nat × Nat
def Res.poolG {α : Type} (d : Kd α) (e base : Nat) (L : List (Sl × List α)) : Res where
 P fp w := ∀ p ∈ L, d.R e w base fp (slV p.1) p.2
 mono h p q hq := Kd.R_mono (p q hq) h
 move h p q hq := (Res.row d e base (slV q.1) q.2).move h (p q hq)
theorem Sp.poolGC {α : Type} {d : Kd α} {e base : Nat} {w0 w : World} {rs : List Res} {i : Nat} {L : List (Sl × List α)} (h : Sp w0 rs w) (hi : rs[i]? = some (Res.poolG d e base L)) {p : Sl × List α} (hp : p ∈ L) : p.1.2.1 = p.2.length ∧ p.1.2.1 ≤ p.1.2.2 ∧ d.C w p.1.1 p.2.length p.2 := by
 obtain ⟨fp, hq, _⟩ := h.get hi
 have h1 := Kd.R_reads' (hq p hp)
 exact ⟨h1.1, h1.2.1, h1.2.2⟩
theorem Sp.poolGNil {α : Type} (d : Kd α) (e : Nat) {w0 w : World} {rs : List Res} (h : Sp w0 rs w) : Sp w0 (Res.poolG d e w0.heap.size [] :: rs) w := h.push (Below.refl _ _) (fun _ hp => by cases hp)
theorem Sp.poolGAdd {α : Type} {d : Kd α} {e base : Nat} {w0 w : World} {rs : List Res} {L : List (Sl × List α)} {A : Option Addr} {n c : Nat} {o : List α} (h : Sp w0 (Res.row d e base (.slice A n c) o :: Res.poolG d e base L :: rs) w) : Sp w0 (Res.poolG d e base (L ++ [((A, n, c), o)]) :: rs) w := by
 refine (Sp.star_close h).weak (i := 0) rfl (fun fp hp => ?_)
 obtain ⟨f1, f2, h1, h2, h3, h4⟩ := hp
 intro p hp
 rcases List.mem_append.1 hp with hp | hp
 ·exact Kd.R_mono (h2 p hp) (fun k hk => h4 k (.inr hk))
 ·obtain rfl := List.mem_singleton.1 hp
  exact Kd.R_mono h1 (fun k hk => h4 k (.inl hk))
theorem at_Sl {w : World} {A : Option Addr} {n : Nat} {xs : List Sl} (h : Kd.C kSl w A n xs) (i : Nat) (h1 : i < n) : ∃ ad , A = some ad ∧ w.cell? (ad.add i) = some (slV (xs.getD i (none, 0, 0))) := by
 obtain ⟨ad, c, e, _, hK, hc0⟩ := Kd.C_get h (none, 0, 0) (i : Int) (by omega) (by omega)
 rw [Int.toNat_natCast] at hK hc0
 have hc : ∀ j u, c[j]? = some u → w.cell? (ad.add (i * 1 + j)) = some u := hc0
 obtain rfl : c = [slV (xs.getD i (none, 0, 0))] := hK
 have := hc 0 _ rfl
 rw [Nat.mul_one, Nat.add_zero] at this
 exact ⟨ad, e, this⟩
theorem Sp.intCell {w0 w : World} {rs : List Res} {i e base n c : Nat} {ad : Addr} {xs : List Int} (h : Sp w0 rs w) (hi : rs[i]? = some (Res.row kI e base (.slice (some ad) n c) xs)) (j : Nat) (hj : j < n) : w.cell? (ad.add j) = some (.int .i64 (xs.getD j 0)) := by
 have hn := (Sp.reads h hi).1
 subst hn
 obtain ⟨ad2, e2, hx⟩ := Kd.at_int (Sp.reads h hi).2.2 (j : Int) (by omega) (by omega)
 injection e2 with e2
 subst e2
 rw [Int.toNat_natCast] at hx
 have e3 : rd xs (j : Int) = xs.getD j 0 := by rw [rd_nat xs j hj]; simp [List.getD_eq_getElem?_getD, hj]
 rw [e3] at hx
 exact hx
theorem Sp.slCell {w0 w : World} {rs : List Res} {i e base n c : Nat} {ad : Addr} {xs : List Sl} (h : Sp w0 rs w) (hi : rs[i]? = some (Res.row kSl e base (.slice (some ad) n c) xs)) (j : Nat) (hj : j < n) : w.cell? (ad.add j) = some (slV (xs.getD j (none, 0, 0))) := by
 have hn := (Sp.reads h hi).1
 subst hn
 obtain ⟨ad2, e2, hx⟩ := at_Sl (Sp.reads h hi).2.2 j hj
 injection e2 with e2
 subst e2
 exact hx
section
attribute [local go_sem] max2_int min2_int max_two min_two max_three min_three max_four min_four
attribute [local go_sem high] eqA94
def spec_l09Index.l0 : Nat → List (S94) → Int → Int → Int → Int → Option (Int)
  | 0, _, _, _, _, _ => none
  | k + 1, x0, x5, x118000, x118001, x118002 => if x5 < (x0.length : Int) then (if 0 ≤ x5 then (if (((rd_T94 x0 x5).f0) == x118000 && (((rd_T94 x0 x5).f1) == x118001 && (((rd_T94 x0 x5).f2) == x118002))) = true then (some x5) else (spec_l09Index.l0 k x0 (wrap64 (x5 + 1)) x118000 x118001 x118002)) else (none)) else (some (-1))
def spec_l09Index.f (k : Nat) (l0 : List (S94)) (a1_0 : Int) (a1_1 : Int) (a1_2 : Int) : Option (Int) := spec_l09Index.l0 k l0 0 a1_0 a1_1 a1_2
set_option maxHeartbeats 8000000 in
set_option maxRecDepth 100000 in
theorem spec_l09Index.calls (k : Nat) (A0 : Option Addr) (c0 : Nat) (l0 : List (S94)) (a1_0 : Int) (a1_1 : Int) (a1_2 : Int) (r : Int) (w : World) (hr0 : Kd.C k94 w A0 l0.length l0) (hc0 : l0.length ≤ c0) (h : spec_l09Index.f k l0 a1_0 a1_1 a1_2 = some r) :
    Calls Try.prog 110 #[.slice A0 l0.length c0, .agg #[.int .i64 a1_0, .int .i64 a1_1, .int .i64 a1_2]] w fun e w' => e = .returned (.int .i64 r) ∧ Below w.heap.size w w' := by
 (have hu94 := Try.underlying94); (have HR0 := A0_ hr0); (have HC0 := A0_ hc0); clear hr0 hc0; (have HB := A0_ (Below.refl w.heap.size w)); (have H : (spec_l09Index.l0 k l0 0 a1_0 a1_1 a1_2) = some r := h); clear h; (have H' := A0_ H); clear H; (go_enter Try.func110, Try.ntmps110); (go_wp2_with (first | ((with_reducible refine gate_dst (N := 3) rfl ?_); refine be_ (N := 3) (cs := #[.int .i64 a1_0, .int .i64 a1_1, .int .i64 a1_2]) (t := 94) ?_; intro gb117 hg w3 hbox hb; have n0_ := A0_ (below_step bw_ hb); have n1_ := A0_ (hbox); have n2_ := A0_ ((by rw [hg]; exact (below_size bw_) : w.heap.size ≤ gb117)); have n3_ := A0_ ((by rw [hg]; exact (below_size bw_) : w.heap.size ≤ gb117)); clear HB; have HB := n0_; have BK117 := n1_; have GW117 := n2_; have GE117 := n3_; clear n0_ n1_ n2_ n3_; clear hb hbox hg))); (repeat (go_quiet (first | ((with_reducible refine gate_dst (N := 3) rfl ?_); refine be_ (N := 3) (cs := #[.int .i64 a1_0, .int .i64 a1_1, .int .i64 a1_2]) (t := 94) ?_; intro gb117 hg w3 hbox hb; have n0_ := A0_ (below_step bw_ hb); have n1_ := A0_ (hbox); have n2_ := A0_ ((by rw [hg]; exact (below_size bw_) : w.heap.size ≤ gb117)); have n3_ := A0_ ((by rw [hg]; exact (below_size bw_) : w.heap.size ≤ gb117)); clear HB; have HB := n0_; have BK117 := n1_; have GW117 := n2_; have GE117 := n3_; clear n0_ n1_ n2_ n3_; clear hb hbox hg)); try go_wp2_with (first | ((with_reducible refine gate_dst (N := 3) rfl ?_); refine be_ (N := 3) (cs := #[.int .i64 a1_0, .int .i64 a1_1, .int .i64 a1_2]) (t := 94) ?_; intro gb117 hg w3 hbox hb; have n0_ := A0_ (below_step bw_ hb); have n1_ := A0_ (hbox); have n2_ := A0_ ((by rw [hg]; exact (below_size bw_) : w.heap.size ≤ gb117)); have n3_ := A0_ ((by rw [hg]; exact (below_size bw_) : w.heap.size ≤ gb117)); clear HB; have HB := n0_; have BK117 := n1_; have GW117 := n2_; have GE117 := n3_; clear n0_ n1_ n2_ n3_; clear hb hbox hg))))
 go_loopg [5] k (fun kq v5 w' => ∃ (x5_1 : Int), v5 = .int .i64 x5_1 ∧ Aside0 (spec_l09Index.l0 kq l0 x5_1 a1_0 a1_1 a1_2 = some r) ∧ Aside0 (kq ≤ k) ∧ Aside0 (w'.heap[gb117]? = some (.cells #[.int .i64 a1_0, .int .i64 a1_1, .int .i64 a1_2] 94 (0, 0))) ∧ Aside0 (Below w.heap.size w w'))
 case atStart => exact ⟨(0), (by first | rfl | (simp; done) | (simp [*]; done)), H', ⟨Nat.le_refl _⟩, ⟨by exact bk_ BK117⟩, ⟨by repeat (first | (with_reducible first | exact HB.out | apply ba_ | apply bn_ | apply bd_ | refine below_set ?_ GE117.out) | exact HB.out)⟩⟩
 case round =>
  clear H'; (try clear c1); (try clear p2); (obtain ⟨x5_1, rfl, HA, HK1, BK117, HB⟩ := hrel)
  cases gk with
  | zero => exact absurd HA.out (by simp [spec_l09Index.l0])
  | succ k1 =>
   (have H := HA.out); clear HA; (simp only [spec_l09Index.l0] at H); (by_cases c4 : x5_1 < (l0.length : Int))
   ·(rw [if_pos c4] at H); (have c4b0 : decide (x5_1 < (l0.length : Int)) = true := decide_eq_true c4); clear c4; (by_cases c5 : 0 ≤ x5_1)
    ·(rw [if_pos c5] at H); (have c5b0 : decide (0 ≤ x5_1) = true := decide_eq_true c5); clear c5; (by_cases c6 : (((rd_T94 l0 x5_1).f0) == a1_0 && (((rd_T94 l0 x5_1).f1) == a1_1 && (((rd_T94 l0 x5_1).f2) == a1_2))) = true)
     ·(rw [if_pos c6] at H); (have c6b0 : (((rd_T94 l0 x5_1).f0) == a1_0 && (((rd_T94 l0 x5_1).f1) == a1_1 && (((rd_T94 l0 x5_1).f2) == a1_2))) = true := c6); ((try (have c6b1 : decide (((rd_T94 l0 x5_1).f0) = a1_0 && (((rd_T94 l0 x5_1).f1) == a1_1 && (((rd_T94 l0 x5_1).f2) == a1_2))) = true := by simpa using c6))); ((try (have c6b2 : (((rd_T94 l0 x5_1).f0) == a1_0 && (((rd_T94 l0 x5_1).f1) == a1_1 && (((rd_T94 l0 x5_1).f2) == a1_2))) = true := by simpa using c6))); clear c6; (obtain rfl := Option.some.inj H); (have p118 : 0 ≤ (x5_1 : Int) := of_decide_eq_true as_); (have q118 : x5_1 < (l0.length : Int) := of_decide_eq_true as_); (obtain ⟨ad118, e118, hx118_0, hx118_1, hx118_2⟩ := at_T94 HR0.out x5_1 p118 q118); (cases e118); (replace hx118_0 := (HB.out.cell (World.block_lt_of_cell? w _ hx118_0)).trans hx118_0); (replace hx118_1 := (HB.out.cell (World.block_lt_of_cell? w _ hx118_1)).trans hx118_1); (replace hx118_2 := (HB.out.cell (World.block_lt_of_cell? w _ hx118_2)).trans hx118_2); (replace p118 := eq_true p118); (replace q118 := eq_true q118); (have hcz7_0 : wr.cell? ⟨gb117, 0, none⟩ = some (.int .i64 a1_0) := (blk_cell BK117.out 0).trans rfl); (have hcz7_1 : wr.cell? ⟨gb117, 1, none⟩ = some (.int .i64 a1_1) := (blk_cell BK117.out 1).trans rfl); (have hcz7_2 : wr.cell? ⟨gb117, 2, none⟩ = some (.int .i64 a1_2) := (blk_cell BK117.out 2).trans rfl); (have hfz7_0 := blk_frozen BK117.out 0); (have hfz7_1 := blk_frozen BK117.out 1); (have hfz7_2 := blk_frozen BK117.out 2); go_wp2; (repeat (go_quiet (fail); try go_wp2)); go_ret; (exact ⟨er_, bx_⟩)
     ·(rw [if_neg c6] at H); (have c6b0 : (((rd_T94 l0 x5_1).f0) == a1_0 && (((rd_T94 l0 x5_1).f1) == a1_1 && (((rd_T94 l0 x5_1).f2) == a1_2))) = false := by simpa using c6); ((try (have c6b1 : decide (((rd_T94 l0 x5_1).f0) = a1_0 && (((rd_T94 l0 x5_1).f1) == a1_1 && (((rd_T94 l0 x5_1).f2) == a1_2))) = false := by simpa using c6))); ((try (have c6b2 : (((rd_T94 l0 x5_1).f0) == a1_0 && (((rd_T94 l0 x5_1).f1) == a1_1 && (((rd_T94 l0 x5_1).f2) == a1_2))) = false := by simpa using c6))); ((try (have c6b3 : ¬ (((rd_T94 l0 x5_1).f0) = a1_0 && (((rd_T94 l0 x5_1).f1) == a1_1 && (((rd_T94 l0 x5_1).f2) == a1_2))) := by simpa using c6))); clear c6; (have H' := A0_ H); clear H; (have p118 : 0 ≤ (x5_1 : Int) := of_decide_eq_true as_); (have q118 : x5_1 < (l0.length : Int) := of_decide_eq_true as_); (obtain ⟨ad118, e118, hx118_0, hx118_1, hx118_2⟩ := at_T94 HR0.out x5_1 p118 q118); (cases e118); (replace hx118_0 := (HB.out.cell (World.block_lt_of_cell? w _ hx118_0)).trans hx118_0); (replace hx118_1 := (HB.out.cell (World.block_lt_of_cell? w _ hx118_1)).trans hx118_1); (replace hx118_2 := (HB.out.cell (World.block_lt_of_cell? w _ hx118_2)).trans hx118_2); (replace p118 := eq_true p118); (replace q118 := eq_true q118); (have hcz8_0 : wr.cell? ⟨gb117, 0, none⟩ = some (.int .i64 a1_0) := (blk_cell BK117.out 0).trans rfl); (have hcz8_1 : wr.cell? ⟨gb117, 1, none⟩ = some (.int .i64 a1_1) := (blk_cell BK117.out 1).trans rfl); (have hcz8_2 : wr.cell? ⟨gb117, 2, none⟩ = some (.int .i64 a1_2) := (blk_cell BK117.out 2).trans rfl); (have hfz8_0 := blk_frozen BK117.out 0); (have hfz8_1 := blk_frozen BK117.out 1); (have hfz8_2 := blk_frozen BK117.out 2); go_wp2; (repeat (go_quiet (fail); try go_wp2)); (go_roundg k1)
      case measure => have := HK1.out; omega
      case rel => exact ⟨(wrap64 (x5_1 + 1)), (by first | rfl | (simp; done) | (simp [*]; done)), H', ⟨by have := HK1.out; omega⟩, ⟨by exact bk_ BK117⟩, ⟨by repeat (first | (with_reducible first | exact HB.out | apply ba_ | apply bn_ | apply bd_ | refine below_set ?_ GE117.out) | exact HB.out)⟩⟩
    ·(rw [if_neg c5] at H); (exact absurd H (by simp))
   ·(rw [if_neg c4] at H); (have c4b0 : decide (x5_1 < (l0.length : Int)) = false := decide_eq_false c4); clear c4; (obtain rfl := Option.some.inj H); go_wp2; (repeat (go_quiet (fail); try go_wp2)); go_ret; (exact ⟨er_, bx_⟩)
end
section
attribute [local go_sem] max2_int min2_int max_two min_two max_three min_three max_four min_four
def spec_l09Add.f (a0_0 : Int) (a0_1 : Int) (a0_2 : Int) (a1_0 : Int) (a1_1 : Int) (a1_2 : Int) : Option (Int × Int × Int) := some (wrap64 (a0_0 + a1_0), wrap64 (a0_1 + a1_1), wrap64 (a0_2 + a1_2))
set_option maxHeartbeats 8000000 in
set_option maxRecDepth 100000 in
theorem spec_l09Add.calls (a0_0 : Int) (a0_1 : Int) (a0_2 : Int) (a1_0 : Int) (a1_1 : Int) (a1_2 : Int) (r1 : Int) (r2 : Int) (r3 : Int) (w : World) (h : spec_l09Add.f a0_0 a0_1 a0_2 a1_0 a1_1 a1_2 = some (r1, r2, r3)) :
    Calls Try.prog 89 #[.agg #[.int .i64 a0_0, .int .i64 a0_1, .int .i64 a0_2], .agg #[.int .i64 a1_0, .int .i64 a1_1, .int .i64 a1_2]] w fun e w' => e = .returned (.agg #[.int .i64 r1, .int .i64 r2, .int .i64 r3]) ∧ Below w.heap.size w w' := by
 (have hu94 := Try.underlying94); (have HB := A0_ (Below.refl w.heap.size w)); (have H : (some (wrap64 (a0_0 + a1_0), wrap64 (a0_1 + a1_1), wrap64 (a0_2 + a1_2))) = some (r1, r2, r3) := h); clear h; (simp only [Option.some.injEq, Prod.mk.injEq] at H); (obtain ⟨rfl, rfl, rfl⟩ := H); (go_enter Try.func89, Try.ntmps89); (go_wp2_with (first | ((with_reducible refine gate_dst (N := 2) rfl ?_); refine be_ (N := 2) (cs := #[.int .i64 a0_0, .int .i64 a0_1, .int .i64 a0_2]) (t := 94) ?_; intro gb103 hg w3 hbox hb; have n0_ := A0_ (below_step bw_ hb); have n1_ := A0_ (hbox); have n2_ := A0_ ((by rw [hg]; exact (below_size bw_) : w.heap.size ≤ gb103)); have n3_ := A0_ ((by rw [hg]; exact (below_size bw_) : w.heap.size ≤ gb103)); clear HB; have HB := n0_; have BK103 := n1_; have GW103 := n2_; have GE103 := n3_; clear n0_ n1_ n2_ n3_; clear hb hbox hg) | ((with_reducible refine gate_dst (N := 3) rfl ?_); refine be_ (N := 3) (cs := #[.int .i64 a1_0, .int .i64 a1_1, .int .i64 a1_2]) (t := 94) ?_; intro gb104 hg w4 hbox hb; have n0_ := A0_ (blk_below (g := gb103) (o := .cells #[.int .i64 a0_0, .int .i64 a0_1, .int .i64 a0_2] 94 (0, 0)) (bk_ BK103) hb); have n1_ := A0_ (below_step bx_ hb); have n2_ := A0_ (hbox); have n3_ := A0_ ((by rw [hg]; exact (below_size bx_) : w.heap.size ≤ gb104)); have n4_ := A0_ ((by rw [hg]; exact (below_size bx_) : w.heap.size ≤ gb104)); have n5_ := A0_ ((by rw [hg]; exact Nat.ne_of_lt (blk_lt (g := gb103) (o := .cells #[.int .i64 a0_0, .int .i64 a0_1, .int .i64 a0_2] 94 (0, 0)) (bk_ BK103)) : gb103 ≠ gb104)); have n6_ := A0_ ((by rw [hg]; exact Nat.ne_of_gt (blk_lt (g := gb103) (o := .cells #[.int .i64 a0_0, .int .i64 a0_1, .int .i64 a0_2] 94 (0, 0)) (bk_ BK103)) : gb104 ≠ gb103)); clear BK103; clear HB; have BK103 := n0_; have HB := n1_; have BK104 := n2_; have GW104 := n3_; have GE104 := n4_; have NB103_104 := n5_; have NB104_103 := n6_; clear n0_ n1_ n2_ n3_ n4_ n5_ n6_; clear hb hbox hg) | ((with_reducible refine gate_dst (N := 4) rfl ?_); refine be_ (N := 4) (cs := #[.int .i64 0, .int .i64 0, .int .i64 0]) (t := 94) ?_; intro gb105 hg w5 hbox hb; have n0_ := A0_ (blk_below (g := gb103) (o := .cells #[.int .i64 a0_0, .int .i64 a0_1, .int .i64 a0_2] 94 (0, 0)) (bk_ BK103) hb); have n1_ := A0_ (blk_below (g := gb104) (o := .cells #[.int .i64 a1_0, .int .i64 a1_1, .int .i64 a1_2] 94 (0, 0)) (bk_ BK104) hb); have n2_ := A0_ (below_step bx_ hb); have n3_ := A0_ (hbox); have n4_ := A0_ ((by rw [hg]; exact (below_size bx_) : w.heap.size ≤ gb105)); have n5_ := A0_ ((by rw [hg]; exact (below_size bx_) : w.heap.size ≤ gb105)); have n6_ := A0_ ((by rw [hg]; exact Nat.ne_of_lt (blk_lt (g := gb103) (o := .cells #[.int .i64 a0_0, .int .i64 a0_1, .int .i64 a0_2] 94 (0, 0)) (bk_ BK103)) : gb103 ≠ gb105)); have n7_ := A0_ ((by rw [hg]; exact Nat.ne_of_gt (blk_lt (g := gb103) (o := .cells #[.int .i64 a0_0, .int .i64 a0_1, .int .i64 a0_2] 94 (0, 0)) (bk_ BK103)) : gb105 ≠ gb103)); have n8_ := A0_ ((by rw [hg]; exact Nat.ne_of_lt (blk_lt (g := gb104) (o := .cells #[.int .i64 a1_0, .int .i64 a1_1, .int .i64 a1_2] 94 (0, 0)) (bk_ BK104)) : gb104 ≠ gb105)); have n9_ := A0_ ((by rw [hg]; exact Nat.ne_of_gt (blk_lt (g := gb104) (o := .cells #[.int .i64 a1_0, .int .i64 a1_1, .int .i64 a1_2] 94 (0, 0)) (bk_ BK104)) : gb105 ≠ gb104)); clear BK103; clear BK104; clear HB; have BK103 := n0_; have BK104 := n1_; have HB := n2_; have BK105 := n3_; have GW105 := n4_; have GE105 := n5_; have NB103_105 := n6_; have NB105_103 := n7_; have NB104_105 := n8_; have NB105_104 := n9_; clear n0_ n1_ n2_ n3_ n4_ n5_ n6_ n7_ n8_ n9_; clear hb hbox hg; have hnb6 := NB103_104.out; have hnc6 := NB104_103.out; have hnb7 := NB103_105.out; have hnc7 := NB105_103.out; have hcz8_0 : w5.cell? ⟨gb103, 0, none⟩ = some (.int .i64 a0_0) := (blk_cell BK103.out 0).trans rfl; have hcz8_1 : w5.cell? ⟨gb103, 1, none⟩ = some (.int .i64 a0_1) := (blk_cell BK103.out 1).trans rfl; have hcz8_2 : w5.cell? ⟨gb103, 2, none⟩ = some (.int .i64 a0_2) := (blk_cell BK103.out 2).trans rfl; have hfz8_0 := blk_frozen BK103.out 0; have hfz8_1 := blk_frozen BK103.out 1; have hfz8_2 := blk_frozen BK103.out 2; have hnb9 := NB104_105.out; have hnc9 := NB105_104.out; have hcz10_0 : w5.cell? ⟨gb104, 0, none⟩ = some (.int .i64 a1_0) := (blk_cell BK104.out 0).trans rfl; have hcz10_1 : w5.cell? ⟨gb104, 1, none⟩ = some (.int .i64 a1_1) := (blk_cell BK104.out 1).trans rfl; have hcz10_2 : w5.cell? ⟨gb104, 2, none⟩ = some (.int .i64 a1_2) := (blk_cell BK104.out 2).trans rfl; have hfz10_0 := blk_frozen BK104.out 0; have hfz10_1 := blk_frozen BK104.out 1; have hfz10_2 := blk_frozen BK104.out 2; have hcz11_0 : w5.cell? ⟨gb105, 0, none⟩ = some (.int .i64 0) := (blk_cell BK105.out 0).trans rfl; have hcz11_1 : w5.cell? ⟨gb105, 1, none⟩ = some (.int .i64 0) := (blk_cell BK105.out 1).trans rfl; have hcz11_2 : w5.cell? ⟨gb105, 2, none⟩ = some (.int .i64 0) := (blk_cell BK105.out 2).trans rfl; have hfz11_0 := blk_frozen BK105.out 0; have hfz11_1 := blk_frozen BK105.out 1; have hfz11_2 := blk_frozen BK105.out 2))); (refine bodyPost_ret (results_cell_row rfl _ _ gb105 94 #[.int .i64 (wrap64 (a0_0 + a1_0)), .int .i64 (wrap64 (a0_1 + a1_1)), .int .i64 (wrap64 (a0_2 + a1_2))] (0, 0) _ rfl (by (with_reducible repeat (first | apply gn_ | apply gd_ | apply ga_)); refine blk_put (cs := #[.int .i64 (wrap64 (a0_0 + a1_0)), .int .i64 (wrap64 (a0_1 + a1_1)), .int .i64 0]) ?_ 2 _ rfl; (with_reducible repeat (first | apply gn_ | apply gd_ | apply ga_)); refine blk_put (cs := #[.int .i64 (wrap64 (a0_0 + a1_0)), .int .i64 0, .int .i64 0]) ?_ 1 _ rfl; (with_reducible repeat (first | apply gn_ | apply gd_ | apply ga_)); refine blk_put (cs := #[.int .i64 0, .int .i64 0, .int .i64 0]) ?_ 0 _ rfl; exact bk_ BK105) Try.underlying94 rfl (by kernel_rfl)) rfl ?_); (exact ⟨er_, bx_⟩)
end
section
attribute [local go_sem] max2_int min2_int max_two min_two max_three min_three max_four min_four
def spec_l09Move.l0 : Nat → List (S94) → List (S94) → Int → Int → Int → Int → Option ((List (S94)))
  | 0, _, _, _, _, _, _ => none
  | k + 1, x0, x5, x6, x107000, x107001, x107002 => if x6 < (x0.length : Int) then (if 0 ≤ x6 then ((spec_l09Add.f ((rd_T94 x0 x6).f0) ((rd_T94 x0 x6).f1) ((rd_T94 x0 x6).f2) x107000 x107001 x107002).bind fun bt111 => (if x5.length < 5864062014805 then (spec_l09Move.l0 k x0 (x5 ++ [(⟨bt111.1, bt111.2.1, bt111.2.2⟩ : S94)]) (wrap64 (x6 + 1)) x107000 x107001 x107002) else (none))) else (none)) else (some x5)
def spec_l09Move.f (k : Nat) (l0 : List (S94)) (a1_0 : Int) (a1_1 : Int) (a1_2 : Int) : Option ((List (S94))) := spec_l09Move.l0 k l0 (([] : List (S94))) 0 a1_0 a1_1 a1_2
def spec_l09Move.T5 : Bool × List (List Nat × List Nat) := (true, [([], []), ([], []), ([], []), ([1, 2], [1, 2]), ([3], [3]), ([], []), ([4, 5], [4, 5]), ([6], [6]), ([0, 7, 6], [0, 7]), ([8, 8, 0, 1, 2, 3, 4, 5, 6, 7, 8], [0, 8])])
def spec_l09Move.B5 : List Nat := [0, 0, 0, 6, 14, 0, 62, 126, 255, 511]
theorem spec_l09Move.tab5 : rtab .any (opsOf Try.f93 5) = spec_l09Move.T5 := by kernel_rfl
theorem spec_l09Move.bits5 : waitsOk spec_l09Move.T5.2 spec_l09Move.B5 = true := by kernel_rfl
set_option maxHeartbeats 8000000 in
set_option maxRecDepth 100000 in
theorem spec_l09Move.calls (k : Nat) (A0 : Option Addr) (c0 : Nat) (l0 : List (S94)) (a1_0 : Int) (a1_1 : Int) (a1_2 : Int) (r : List (S94)) (w : World) (hr0 : Kd.C k94 w A0 l0.length l0) (hc0 : l0.length ≤ c0) (h : spec_l09Move.f k l0 a1_0 a1_1 a1_2 = some r) :
    Calls Try.prog 93 #[.slice A0 l0.length c0, .agg #[.int .i64 a1_0, .int .i64 a1_1, .int .i64 a1_2]] w fun e w' => ∃ v0_ : Value, e = .returned (v0_) ∧ Kd.R k94 94 w' w.heap.size (fun _ => True) v0_ r ∧ Below w.heap.size w w' := by
 (have hu94 := Try.underlying94); (have HR0 := A0_ hr0); (have HC0 := A0_ hc0); clear hr0 hc0; (have HB := A0_ (Below.refl w.heap.size w)); (have H : (spec_l09Move.l0 k l0 (([] : List (S94))) 0 a1_0 a1_1 a1_2) = some r := h); clear h; (obtain ⟨y107, hy107⟩ : ∃ y_ : List (S94), y_ = (([] : List (S94))) := ⟨_, rfl⟩); (replace H : (spec_l09Move.l0 k l0 y107 0 a1_0 a1_1 a1_2) = some r := by first | (rw [hy107]; with_reducible exact H) | (have H2_ := (Option.bind_some _ _).symm.trans H; rw [hy107]; with_reducible exact H2_) | (have H2_ := (Option.bind_some _ _).symm.trans H; with_reducible exact H2_) | with_reducible exact H | (rw [hy107]; exact H) | exact H); (have Ny107 := A0_ hy107); clear hy107; (have H' := A0_ H); clear H; (go_enter Try.func93, Try.ntmps93)
 go_wp2_with (first | ((with_reducible refine gate_dst (N := 3) rfl ?_); refine be_ (N := 3) (cs := #[.int .i64 a1_0, .int .i64 a1_1, .int .i64 a1_2]) (t := 94) ?_; intro gb106 hg w3 hbox hb; have n0_ := A0_ (below_step bw_ hb); have n1_ := A0_ (hbox); have n2_ := A0_ ((by rw [hg]; exact (below_size bw_) : w.heap.size ≤ gb106)); have n3_ := A0_ ((by rw [hg]; exact (below_size bw_) : w.heap.size ≤ gb106)); clear HB; have HB := n0_; have BK106 := n1_; have GW106 := n2_; have GE106 := n3_; clear n0_ n1_ n2_ n3_; clear hb hbox hg) | ((with_reducible refine gate_dst (N := 7) rfl ?_); refine Kd.R_lit k94 _ 94 ?hg (N := 7) ?hd (xs := ([] : List (S94))) (inner := []) (ok := fun _ => True) (okp := fun _ => True) ?hr ?hp (fun _ hk => hk) trivial (Below.refl _ _) (Nat.le_refl _) (by simp) ?_; (case hd => rfl); (case hg => rfl); (case hr => first | (go_simp; done) | (go_simp; rfl)); (case hp => exact (Reps.none _ _)); intro v108 w4 ho5 hb hg_ hnew_; clear hg_ hnew_; (first | rw [← Ny107.out] at ho5 | (simp only [Int.reduceToNat] at ho5; rw [← Ny107.out] at ho5)); have n0_ := A0_ (Kd.R_lower (Kd.R_newB ho5 (g := gb106) (o := .cells #[.int .i64 a1_0, .int .i64 a1_1, .int .i64 a1_2] 94 (0, 0)) (bk_ BK106)) (below_size bx_)); have n1_ := A0_ (blk_below (g := gb106) (o := .cells #[.int .i64 a1_0, .int .i64 a1_1, .int .i64 a1_2] 94 (0, 0)) (bk_ BK106) hb); have n2_ := A0_ (below_step bx_ hb); clear BK106; clear HB; have HO109 := n0_; have BK106 := n1_; have HB := n2_; clear n0_ n1_ n2_; clear hb ho5))
 go_loopg [5, 6] k (fun kq v5 v6 w' => ∃ (x5_1 : List (S94)) (x6_1 : Int), v6 = .int .i64 x6_1 ∧ Aside0 (spec_l09Move.l0 kq l0 x5_1 x6_1 a1_0 a1_1 a1_2 = some r) ∧ Aside0 (kq ≤ k) ∧ Aside0 (Kd.R k94 94 w' w.heap.size (fun k_ => k_ ≠ gb106) v5 x5_1) ∧ Aside0 (w'.heap[gb106]? = some (.cells #[.int .i64 a1_0, .int .i64 a1_1, .int .i64 a1_2] 94 (0, 0))) ∧ Aside0 (Below w.heap.size w w'))
 case atStart => exact ⟨(y107), (0), (by first | rfl | (simp; done) | (simp [*]; done)), H', ⟨Nat.le_refl _⟩, ⟨by (with_reducible repeat (first | apply Ra_ | apply Rn_ | apply Rd_)); exact Kd.R_mono HO109.out (fun _ hk => hk.2)⟩, ⟨by exact bk_ BK106⟩, ⟨by repeat (first | (with_reducible first | exact HB.out | apply ba_ | apply bn_ | apply bd_ | refine below_set ?_ GE106.out) | exact HB.out)⟩⟩
 case round =>
  clear H'; (try clear p2); (obtain ⟨x5_1, x6_1, rfl, HA, HK1, HO_5, BK106, HB⟩ := hrel)
  cases gk with
  | zero => exact absurd HA.out (by simp [spec_l09Move.l0])
  | succ k1 =>
   (have H := HA.out); clear HA; (simp only [spec_l09Move.l0] at H); (by_cases c6 : x6_1 < (l0.length : Int))
   ·(rw [if_pos c6] at H); (have c6b0 : decide (x6_1 < (l0.length : Int)) = true := decide_eq_true c6); clear c6; (by_cases c7 : 0 ≤ x6_1)
    ·(rw [if_pos c7] at H); (have c7b0 : decide (0 ≤ x6_1) = true := decide_eq_true c7); clear c7; (replace H := Option.bind_eq_some_iff.mp H); (obtain ⟨⟨t111, t112, t113⟩, A80, H⟩ := H); (try dsimp only at H); (have A8 := A0_ A80); clear A80; (by_cases c9 : x5_1.length < 5864062014805)
     ·(rw [if_pos c9] at H); (have LMc9 := A0_ c9); clear c9; (obtain ⟨y114, hy114⟩ : ∃ y_ : List (S94), y_ = (x5_1 ++ [(⟨t111, t112, t113⟩ : S94)]) := ⟨_, rfl⟩); (replace H : (spec_l09Move.l0 k1 l0 y114 (wrap64 (x6_1 + 1)) a1_0 a1_1 a1_2) = some r := by first | (rw [hy114]; with_reducible exact H) | (have H2_ := (Option.bind_some _ _).symm.trans H; rw [hy114]; with_reducible exact H2_) | (have H2_ := (Option.bind_some _ _).symm.trans H; with_reducible exact H2_) | with_reducible exact H | (rw [hy114]; exact H) | exact H); (have Ny114 := A0_ hy114); clear hy114; (have H' := A0_ H); clear H; (try go_wp2); (have n0_ := A0_ (Kd.R_drew HO_5.out)); (have n1_ := A0_ (blk_drew BK106.out)); (have n2_ := A0_ (below_drew1 HB.out)); clear HO_5; clear BK106; clear HB; (have HO_5 := n0_); (have BK106 := n1_); (have HB := n2_); clear n0_ n1_ n2_; (have p110 : 0 ≤ (x6_1 : Int) := of_decide_eq_true as_); (have q110 : x6_1 < (l0.length : Int) := of_decide_eq_true as_); (obtain ⟨ad110, e110, hx110_0, hx110_1, hx110_2⟩ := at_T94 HR0.out x6_1 p110 q110); (have hw110_2 := hx110_2); (have hw110_1 := hx110_1); (have hw110_0 := hx110_0); (cases e110); (replace hx110_0 := (HB.out.cell (World.block_lt_of_cell? w _ hx110_0)).trans hx110_0); (replace hx110_1 := (HB.out.cell (World.block_lt_of_cell? w _ hx110_1)).trans hx110_1); (replace hx110_2 := (HB.out.cell (World.block_lt_of_cell? w _ hx110_2)).trans hx110_2); (replace p110 := eq_true p110); (replace q110 := eq_true q110)
      refine start_ (n := 10) (S := fun w' => w'.cell? ⟨gb106, 0, none⟩ = some (.int .i64 a1_0) ∧ w'.cell? ⟨gb106, 1, none⟩ = some (.int .i64 a1_1) ∧ w'.cell? ⟨gb106, 2, none⟩ = some (.int .i64 a1_2) ∧ w'.cell? (ad110.add ((x6_1).toNat * 3)) = some (.int .i64 ((rd_T94 l0 x6_1).f0)) ∧ w'.cell? ⟨(ad110.add ((x6_1).toNat * 3)).block, (ad110.add ((x6_1).toNat * 3)).off + 1, none⟩ = some (.int .i64 ((rd_T94 l0 x6_1).f1)) ∧ w'.cell? ⟨(ad110.add ((x6_1).toNat * 3)).block, (ad110.add ((x6_1).toNat * 3)).off + 2, none⟩ = some (.int .i64 ((rd_T94 l0 x6_1).f2))) (ds := []) #[ff,ff,ff,ff,ff,ff,ff,ff,ff,ff] (by kernel_rfl) rfl rfl ⟨(blk_cell BK106.out 0).trans rfl, (blk_cell BK106.out 1).trans rfl, (blk_cell BK106.out 2).trans rfl, ((HB.out.cell (World.block_lt_of_cell? w _ hw110_0)).trans hw110_0), ((HB.out.cell (World.block_lt_of_cell? w _ hw110_1)).trans hw110_1), ((HB.out.cell (World.block_lt_of_cell? w _ hw110_2)).trans hw110_2)⟩ (fun hHeld => ?_); refine with_tabW spec_l09Move.tab5 spec_l09Move.bits5 (fun HT_ HW_ => ?_)
      (generalize wr.drew = w10 at HO_5 BK106 HB hx110_0 hx110_1 hx110_2 hHeld ⊢); (refine on_ 0 (some 14) ?_); (refine on_ 1 (some 15) ?_); (refine on_ 2 (some 16) ?_); (refine on_ 3 (some 17) ?_); (refine tk_ 4 (some 18) ?_); (refine tk_ 5 (some 19) ?_)
      refine o1_ 6 (some 20) (fun K hK => ?_)
      (refine gs_ Try.func89 #[.agg #[.int .i64 ((rd_T94 l0 x6_1).f0), .int .i64 ((rd_T94 l0 x6_1).f1), .int .i64 ((rd_T94 l0 x6_1).f2)], .agg #[.int .i64 a1_0, .int .i64 a1_1, .int .i64 a1_2]] ?_); (with_reducible refine (spec_l09Add.calls ((rd_T94 l0 x6_1).f0) ((rd_T94 l0 x6_1).f1) ((rd_T94 l0 x6_1).f2) a1_0 a1_1 a1_2 t111 t112 t113 _ A8.out).mono ?_); (rintro e w11 ⟨rfl, hb⟩); (refine ⟨_, rfl, ?_⟩); (have n0_ := A0_ (Kd.R_below (by (with_reducible repeat (first | apply Ra_ | apply Rn_ | apply Rd_)); exact HO_5.out) hb)); (have n1_ := A0_ (blk_below (g := gb106) (o := .cells #[.int .i64 a1_0, .int .i64 a1_1, .int .i64 a1_2] 94 (0, 0)) (bk_ BK106) hb)); (have n2_ := A0_ (below_step bx_ hb)); clear HO_5; clear BK106; clear HB; (have HO_5 := n0_); (have BK106 := n1_); (have HB := n2_); clear n0_ n1_ n2_; ((try clear hb)); ((try clear hb2)); ((try clear hk)); ((try clear hi))
      refine hK.out _ _ ⟨(blk_cell BK106.out 0).trans rfl, (blk_cell BK106.out 1).trans rfl, (blk_cell BK106.out 2).trans rfl, ((HB.out.cell (World.block_lt_of_cell? w _ hw110_0)).trans hw110_0), ((HB.out.cell (World.block_lt_of_cell? w _ hw110_1)).trans hw110_1), ((HB.out.cell (World.block_lt_of_cell? w _ hw110_2)).trans hw110_2)⟩ (fun hHeld => ?_)
      clear hK K; (refine nm_ (some 20) ?_)
      refine o1_ 7 (some 21) (fun K hK => ?_)
      (refine value_ (w1 := ?_) (v := ?_) (by rfl) rfl ?_ ?_); (rotate_left 2)
      ·go_simp; (constructor)
       ·rfl
       ·rfl
      refine hK.out _ _ ⟨(blk_cell (blk_alloc BK106.out _) 0).trans rfl, (blk_cell (blk_alloc BK106.out _) 1).trans rfl, (blk_cell (blk_alloc BK106.out _) 2).trans rfl, (World.cell?_alloc_lt _ _ _ (World.block_lt_of_cell? _ _ (((HB.out.cell (World.block_lt_of_cell? w _ hw110_0)).trans hw110_0)))).trans (((HB.out.cell (World.block_lt_of_cell? w _ hw110_0)).trans hw110_0)), (World.cell?_alloc_lt _ _ _ (World.block_lt_of_cell? _ _ (((HB.out.cell (World.block_lt_of_cell? w _ hw110_1)).trans hw110_1)))).trans (((HB.out.cell (World.block_lt_of_cell? w _ hw110_1)).trans hw110_1)), (World.cell?_alloc_lt _ _ _ (World.block_lt_of_cell? _ _ (((HB.out.cell (World.block_lt_of_cell? w _ hw110_2)).trans hw110_2)))).trans (((HB.out.cell (World.block_lt_of_cell? w _ hw110_2)).trans hw110_2))⟩ (fun hHeld => ?_)
      clear hK K; (refine nm_ (some 21) ?_)
      refine o1_ 8 (some 22) (fun K hK => ?_)
      refine Kd.R_append_step k94 (w0 := w) w.heap.size (by rfl) (.tmp 14) (.tmp 21) 35 94 (.agg #[(.int .i64 0), (.int .i64 0), (.int .i64 0)]) 24 rfl Try.underlying35 info94 rfl (by decide) (by omega) u5 x5_1 (⟨t111, t112, t113⟩ : S94) [.int .i64 t111, .int .i64 t112, .int .i64 t113] (fun k_ => k_ ≠ gb106) (fun _ => False) rfl rfl ?aP (fun _ hk => hk.elim) ?aF ?aO ?aB ?aS ?aL ?_
      ((case aP => exact k94_mkM _ _ _ (⟨t111, t112, t113⟩ : S94))); ((case aB => exact bx_))
      (case aF => exact (fun k_ hk => Kd.freshB (g := gb106) (o := .cells #[.int .i64 a1_0, .int .i64 a1_1, .int .i64 a1_2] 94 (0, 0)) (bk_ BK106) k_ hk))
      ((case aO => exact (by (with_reducible repeat (first | apply Ra_ | apply Rn_ | apply Rd_)); exact HO_5.out))); ((case aS => exact (below_size bx_))); ((case aL => have := LMc9.out; omega)); intro v115 w12 ho hb hg hat; (rw [← Ny114.out] at ho)
      have n0_ := A0_ (blk_grown (g := gb106) (o := .cells #[.int .i64 a1_0, .int .i64 a1_1, .int .i64 a1_2] 94 (0, 0)) (bk_ BK106) hg (Kd.R_away HO_5.out (fun _ hk => hk)))
      (have n1_ := A0_ (hb)); (have n2_ := A0_ (ho)); clear BK106; clear HB; clear HO_5; (have BK106 := n0_); (have HB := n1_); (have HO116 := n2_); clear n0_ n1_ n2_; clear ho hb hg hat
      refine hK.out _ _ ⟨(blk_cell BK106.out 0).trans rfl, (blk_cell BK106.out 1).trans rfl, (blk_cell BK106.out 2).trans rfl, ((HB.out.cell (World.block_lt_of_cell? w _ hw110_0)).trans hw110_0), ((HB.out.cell (World.block_lt_of_cell? w _ hw110_1)).trans hw110_1), ((HB.out.cell (World.block_lt_of_cell? w _ hw110_2)).trans hw110_2)⟩ (fun hHeld => ?_)
      clear hK K; (refine nm_ (some 22) ?_); (refine on_ 9 (some 5) ?_); (refine dn_ ?_); (try go_wp2); (go_roundg k1)
      case measure => have := HK1.out; omega
      case rel => exact ⟨(y114), (wrap64 (x6_1 + 1)), (by first | rfl | (simp; done) | (simp [*]; done)), H', ⟨by have := HK1.out; omega⟩, ⟨by (with_reducible repeat (first | apply Ra_ | apply Rn_ | apply Rd_)); exact HO116.out⟩, ⟨by exact bk_ BK106⟩, ⟨by repeat (first | (with_reducible first | exact HB.out | apply ba_ | apply bn_ | apply bd_ | refine below_set ?_ GE106.out) | exact HB.out)⟩⟩
     ·(rw [if_neg c9] at H); (exact absurd H (by simp))
    ·(rw [if_neg c7] at H); (exact absurd H (by simp))
   ·(rw [if_neg c6] at H); (have c6b0 : decide (x6_1 < (l0.length : Int)) = false := decide_eq_false c6); clear c6; (obtain rfl := Option.some.inj H); go_wp2; go_ret
    exact ⟨_, by first | rfl | (simp [errW_none, errW_some] <;> rfl) | (simp [*, errW_none, errW_some] <;> rfl), by (with_reducible repeat (first | apply Ra_ | apply Rn_ | apply Rd_)); exact Kd.R_mono HO_5.out (fun _ hk => trivial), bx_⟩
end
section
attribute [local go_sem] max2_int min2_int max_two min_two max_three min_three max_four min_four
def spec_l27Meet.l0 : Nat → List (S94) → List (S94) → Int → Option (Bool)
  | 0, _, _, _ => none
  | k + 1, x0, x1, x5 => if x5 < (x0.length : Int) then (if 0 ≤ x5 then ((spec_l09Index.f k x1 ((rd_T94 x0 x5).f0) ((rd_T94 x0 x5).f1) ((rd_T94 x0 x5).f2)).bind fun t387 => (if t387 ≥ 0 then (some true) else (spec_l27Meet.l0 k x0 x1 (wrap64 (x5 + 1))))) else (none)) else (some false)
def spec_l27Meet.f (k : Nat) (l0 : List (S94)) (l1 : List (S94)) : Option (Bool) := spec_l27Meet.l0 k l0 l1 0
set_option maxHeartbeats 8000000 in
set_option maxRecDepth 100000 in
theorem spec_l27Meet.calls (k : Nat) (A0 : Option Addr) (c0 : Nat) (l0 : List (S94)) (A1 : Option Addr) (c1 : Nat) (l1 : List (S94)) (r : Bool) (w : World) (hr0 : Kd.C k94 w A0 l0.length l0) (hc0 : l0.length ≤ c0) (hr1 : Kd.C k94 w A1 l1.length l1) (hc1 : l1.length ≤ c1) (h : spec_l27Meet.f k l0 l1 = some r) :
    Calls Try.prog 86 #[.slice A0 l0.length c0, .slice A1 l1.length c1] w fun e w' => e = .returned (.bool r) ∧ Below w.heap.size w w' := by
 (have hu94 := Try.underlying94); (have HR0 := A0_ hr0); (have HC0 := A0_ hc0); clear hr0 hc0; (have HR1 := A0_ hr1); (have HC1 := A0_ hc1); clear hr1 hc1; (have HB := A0_ (Below.refl w.heap.size w)); (have H : (spec_l27Meet.l0 k l0 l1 0) = some r := h); clear h; (have H' := A0_ H); clear H; (go_enter Try.func86, Try.ntmps86); go_wp2
 go_loopg [5] k (fun kq v5 w' => ∃ (x5_1 : Int), v5 = .int .i64 x5_1 ∧ Aside0 (spec_l27Meet.l0 kq l0 l1 x5_1 = some r) ∧ Aside0 (kq ≤ k) ∧ Aside0 (Below w.heap.size w w'))
 case atStart => exact ⟨(0), (by first | rfl | (simp; done) | (simp [*]; done)), H', ⟨Nat.le_refl _⟩, ⟨by repeat (first | (with_reducible first | exact HB.out | apply ba_ | apply bn_ | apply bd_) | exact HB.out)⟩⟩
 case round =>
  clear H'; (try clear c1); (try clear p2); (obtain ⟨x5_1, rfl, HA, HK1, HB⟩ := hrel)
  cases gk with
  | zero => exact absurd HA.out (by simp [spec_l27Meet.l0])
  | succ k1 =>
   (have H := HA.out); clear HA; (simp only [spec_l27Meet.l0] at H); (by_cases c3 : x5_1 < (l0.length : Int))
   ·(rw [if_pos c3] at H); (have c3b0 : decide (x5_1 < (l0.length : Int)) = true := decide_eq_true c3); clear c3; (by_cases c4 : 0 ≤ x5_1)
    ·(rw [if_pos c4] at H); (have c4b0 : decide (0 ≤ x5_1) = true := decide_eq_true c4); clear c4; (replace H := Option.bind_eq_some_iff.mp H); (obtain ⟨t387, A50, H⟩ := H); (try dsimp only at H); (have A5 := A0_ A50); clear A50; (have H0_ := A0_ H); clear H; (have p386 : 0 ≤ (x5_1 : Int) := of_decide_eq_true as_); (have q386 : x5_1 < (l0.length : Int) := of_decide_eq_true as_); (obtain ⟨ad386, e386, hx386_0, hx386_1, hx386_2⟩ := at_T94 HR0.out x5_1 p386 q386); (cases e386); (replace hx386_0 := (HB.out.cell (World.block_lt_of_cell? w _ hx386_0)).trans hx386_0); (replace hx386_1 := (HB.out.cell (World.block_lt_of_cell? w _ hx386_1)).trans hx386_1); (replace hx386_2 := (HB.out.cell (World.block_lt_of_cell? w _ hx386_2)).trans hx386_2); (replace p386 := eq_true p386); (replace q386 := eq_true q386); (go_wp2_with (first | ((with_reducible refine gate_callee (f := 110) rfl ?_); refine gl_ (some 17) Try.func110 #[.slice A1 l1.length c1, .agg #[.int .i64 ((rd_T94 l0 x5_1).f0), .int .i64 ((rd_T94 l0 x5_1).f1), .int .i64 ((rd_T94 l0 x5_1).f2)]] ?_; (with_reducible refine (spec_l09Index.calls k1 _ _ l1 ((rd_T94 l0 x5_1).f0) ((rd_T94 l0 x5_1).f1) ((rd_T94 l0 x5_1).f2) t387 _ ?side1 ?side2 A5.out).mono ?_); (case side1 => exact kc_ (Kd.C_below HR1.out HB.out)); (case side2 => exact HC1.out); rintro e w6 ⟨rfl, hb⟩; refine ⟨_, rfl, ?_⟩; replace HB := A0_ (below_step bw_ hb); (try clear hb); (try clear hb2); (try clear hk); (try clear hi); refine Stop0.out ?_))); (refine Stop0.mk ?_); (have H := H0_.out); clear H0_; (by_cases c7 : t387 ≥ 0)
     ·(rw [if_pos c7] at H); (have c7b0 : decide (0 ≤ t387) = true := decide_eq_true c7); clear c7; (obtain rfl := Option.some.inj H); go_wp2; go_ret; (exact ⟨er_, bx_⟩)
     ·(rw [if_neg c7] at H); (have c7b0 : decide (0 ≤ t387) = false := decide_eq_false c7); clear c7; (have H' := A0_ H); clear H; go_wp2; (go_roundg k1)
      case measure => have := HK1.out; omega
      case rel => exact ⟨(wrap64 (x5_1 + 1)), (by first | rfl | (simp; done) | (simp [*]; done)), H', ⟨by have := HK1.out; omega⟩, ⟨by repeat (first | (with_reducible first | exact HB.out | apply ba_ | apply bn_ | apply bd_) | exact HB.out)⟩⟩
    ·(rw [if_neg c4] at H); (exact absurd H (by simp))
   ·(rw [if_neg c3] at H); (have c3b0 : decide (x5_1 < (l0.length : Int)) = false := decide_eq_false c3); clear c3; (obtain rfl := Option.some.inj H); go_wp2; go_ret; (exact ⟨er_, bx_⟩)
end
theorem sindex_ev (l : List Cb) (x : Cb) (h : l.length ≤ 1048576) : ∃ r : Int, decide (r ≥ 0) = l.contains x ∧ Ev (fun k => spec_l09Index.f k l x.f0 x.f1 x.f2) r := by
 unfold spec_l09Index.f
 refine ev_inv0 l.length (fun (_ : Unit) j => ∀ i (hi : i < j) (hl : i < l.length), l[i] ≠ x) (fun r : Int => decide (r ≥ 0) = l.contains x) (fun _ i k => spec_l09Index.l0 k l i x.f0 x.f1 x.f2) (fun s hi => ?_) (fun s j hj hi => ?_) () (fun i hi => by omega)
 ·refine ⟨-1, ?_, Ev.step (f := fun _ => some (-1)) (fun k => by simp only [spec_l09Index.l0]; rw [if_neg (by omega)]) (Ev.now _)⟩
  have hn : ¬ l.contains x = true := fun hc => by
   rw [List.contains_iff_mem, List.mem_iff_getElem] at hc
   obtain ⟨i, hl, e⟩ := hc
   exact hi i hl hl e
  rw [Bool.eq_false_iff.mpr hn]
  rfl
 ·have hg : rd_T94 l (j : Int) = l[j] := by unfold rd_T94; exact getD_nat l _ j hj
  have e3 : (l[j].f0 == x.f0 && (l[j].f1 == x.f1 && l[j].f2 == x.f2)) = decide (l[j] = x) := eq_cb l[j] x
  have hw := wrap_succ j (show j < 9223372036854775807 by omega)
  by_cases c : l[j] = x
  ·refine .inl ⟨(j : Int), ?_, Ev.step (f := fun _ => some (j : Int)) (fun k => ?_) (Ev.now _)⟩
   ·have : l.contains x = true := by rw [← c, List.contains_iff_mem]; exact List.getElem_mem hj
    rw [this]
    exact decide_eq_true (by omega)
   ·simp only [spec_l09Index.l0, hg, e3, show (j : Int) < (l.length : Int) from by omega, show (0 : Int) ≤ (j : Int) from by omega, if_true, decide_eq_true_eq]
    rw [if_pos c]
  ·refine .inr ⟨(), fun i hi2 hl => ?_, fun r h2 => Ev.succ ?_⟩
   ·by_cases e : i = j
    ·subst e; exact c
    ·exact hi i (by omega) hl
   ·simp only [spec_l09Index.l0, hg, e3, show (j : Int) < (l.length : Int) from by omega, show (0 : Int) ≤ (j : Int) from by omega, if_true, decide_eq_true_eq]
    simp only [c, if_false, hw]
    exact h2
theorem smove_ev (l : List Cb) (d : Cb) (h : l.length ≤ 1048576) : Ev (fun k => spec_l09Move.f k l d.f0 d.f1 d.f2) (l.map fun c => addC c d) := by
 obtain ⟨r, hr, hk⟩ : ∃ r, r = (l.map fun c => addC c d) ∧ Ev (fun k => spec_l09Move.f k l d.f0 d.f1 d.f2) r := by
  unfold spec_l09Move.f
  refine ev_inv0 l.length (fun (s : List Cb) j => s = (l.take j).map fun c => addC c d) (fun r => r = (l.map fun c => addC c d)) (fun s i k => spec_l09Move.l0 k l s i d.f0 d.f1 d.f2) (fun s hi => ?_) (fun s j hj hi => ?_) [] rfl
  ·refine ⟨s, ?_, Ev.step (f := fun _ => some s) (fun k => by simp only [spec_l09Move.l0]; rw [if_neg (by omega)]) (Ev.now _)⟩
   rw [hi, List.take_length]
  ·have hg : rd_T94 l (j : Int) = l[j] := by unfold rd_T94; exact getD_nat l _ j hj
   have hw := wrap_succ j (show j < 9223372036854775807 by omega)
   have hsl : s.length < 5864062014805 := by
    rw [hi, List.length_map, List.length_take]
    omega
   have hnext : ((l.take (j + 1)).map fun c => addC c d) = s ++ [addC l[j] d] := by
    rw [List.take_succ_eq_append_getElem hj, List.map_append, hi]
    rfl
   refine .inr ⟨_, hnext.symm, fun r h2 => Ev.succ ?_⟩
   simp only [spec_l09Move.l0, hg, hsl, spec_l09Add.f, Option.bind_some, if_true, show (j : Int) < (l.length : Int) from by omega, show (0 : Int) ≤ (j : Int) from by omega, hw]
   exact h2
 rw [← hr]
 exact hk
theorem smeet_ev (a b : List Cb) (ha : a.length ≤ 1048576) (hb : b.length ≤ 1048576) : Ev (fun k => spec_l27Meet.f k a b) (a.any fun c => b.contains c) := by
 obtain ⟨r, hr, hk⟩ : ∃ r, r = (a.any fun c => b.contains c) ∧ Ev (fun k => spec_l27Meet.f k a b) r := by
  unfold spec_l27Meet.f
  refine ev_inv0 a.length (fun (_ : Unit) j => (a.take j).any (fun c => b.contains c) = false) (fun r => r = (a.any fun c => b.contains c)) (fun _ i k => spec_l27Meet.l0 k a b i) (fun s hi => ?_) (fun s j hj hi => ?_) () rfl
  ·refine ⟨false, ?_, Ev.step (f := fun _ => some false) (fun k => by simp only [spec_l27Meet.l0]; rw [if_neg (by omega)]) (Ev.now _)⟩
   rw [List.take_length] at hi
   exact hi.symm
  ·have hg : rd_T94 a (j : Int) = a[j] := by unfold rd_T94; exact getD_nat a _ j hj
   have hw := wrap_succ j (show j < 9223372036854775807 by omega)
   obtain ⟨i, hi2, hik⟩ := sindex_ev b a[j] hb
   cases hc : b.contains a[j] with
   | true =>
    rw [hc] at hi2
    have h0 := of_decide_eq_true hi2
    refine .inl ⟨true, (List.any_eq_true.2 ⟨_, List.getElem_mem hj, hc⟩).symm, Ev.step (f := fun k => (spec_l09Index.f k b a[j].f0 a[j].f1 a[j].f2).bind fun t => if t ≥ 0 then some true else spec_l27Meet.l0 k a b (wrap64 ((j : Int) + 1))) (fun k => ?_) (Ev.bind hik (Ev.val fun k => by rw [if_pos h0]))⟩
    simp only [spec_l27Meet.l0, hg, show (j : Int) < (a.length : Int) from by omega, show (0 : Int) ≤ (j : Int) from by omega, if_true]
   | false =>
    rw [hc] at hi2
    have h0 := of_decide_eq_false hi2
    refine .inr ⟨(), ?_, fun r h2 => Ev.step (f := fun k => (spec_l09Index.f k b a[j].f0 a[j].f1 a[j].f2).bind fun t => if t ≥ 0 then some true else spec_l27Meet.l0 k a b (wrap64 ((j : Int) + 1))) (fun k => ?_) (Ev.bind hik ?_)⟩
    ·show (a.take (j + 1)).any _ = false
     rw [List.take_succ_eq_append_getElem hj, List.any_append, hi]
     simp [hc]
     simpa using hc
    ·simp only [spec_l27Meet.l0, hg, show (j : Int) < (a.length : Int) from by omega, show (0 : Int) ≤ (j : Int) from by omega, if_true]
    ·refine Ev.congr (fun k => ?_) h2
     rw [if_neg h0, hw]
 rw [← hr]
 exact hk
section
attribute [local go_sem] max2_int min2_int max_two min_two max_three min_three max_four min_four
/-- A state of type 107 at block g of W; what its slices lead to came in by w0. -/
def IsS107 (w0 W : World) (g : Nat) (f0 : List Int) (f1 : Int) (f2 : Int) : Prop := ∃ A0 c0, W.heap[g]? = some (.cells #[.slice A0 f0.length c0, .int .i64 f1, .int .i64 f2] 107 (0, 0)) ∧ w0.heap.size ≤ g ∧ Kd.C (Kd.int .u8) w0 A0 f0.length f0
theorem IsS107.grown {w0 W : World} {g : Nat} {f0 : List Int} {f1 : Int} {f2 : Int} {W1 : World} {row : Option Nat} (h : IsS107 w0 W g f0 f1 f2) (hw : W.grownBy W1 row) (hne : some g ≠ row) : IsS107 w0 W1 g f0 f1 f2 := by
 (obtain ⟨A0, c0, hb, hg, hr0⟩ := h); (exact ⟨A0, c0, blk_grown hb hw hne, hg, hr0⟩)
theorem IsS107.kept {w0 W : World} {g : Nat} {f0 : List Int} {f1 : Int} {f2 : Int} {W1 : World} {S : Nat → Prop} (h : IsS107 w0 W g f0 f1 f2) (hk : Kept W W1 S) (hne : ¬ S g) : IsS107 w0 W1 g f0 f1 f2 := by
 (obtain ⟨A0, c0, hb, hg, hr0⟩ := h); (exact ⟨A0, c0, blk_kept hb hk hne, hg, hr0⟩)
theorem IsS107.below {w0 W : World} {g : Nat} {f0 : List Int} {f1 : Int} {f2 : Int} {W1 : World} (h : IsS107 w0 W g f0 f1 f2) (hw : Below W.heap.size W W1) : IsS107 w0 W1 g f0 f1 f2 := h.grown (grown_of_below hw none) (by simp)
theorem IsS107.alloc {w0 W : World} {g : Nat} {f0 : List Int} {f1 : Int} {f2 : Int} (h : IsS107 w0 W g f0 f1 f2) (o : Obj) : IsS107 w0 (W.alloc o) g f0 f1 f2 := h.below (below_alloc (Below.refl _ _) o)
theorem IsS107.drewN {w0 W : World} {g : Nat} {f0 : List Int} {f1 : Int} {f2 : Int} (h : IsS107 w0 W g f0 f1 f2) (m : Nat) : IsS107 w0 (W.drewN m) g f0 f1 f2 := h
theorem IsS107.drew {w0 W : World} {g : Nat} {f0 : List Int} {f1 : Int} {f2 : Int} (h : IsS107 w0 W g f0 f1 f2) : IsS107 w0 W.drew g f0 f1 f2 := h
theorem IsS107.at_ {w0 W : World} {g : Nat} {f0 : List Int} {f1 : Int} {f2 : Int} {w' : World} {m : Nat} (hq : W.drewN m = w') (h : IsS107 w0 W g f0 f1 f2) : IsS107 w0 w' g f0 f1 f2 := by subst hq; exact IsS107.drewN h m
theorem IsS107.apart {w0 W : World} {g : Nat} {f0 : List Int} {f1 : Int} {f2 : Int} {α : Type} {d : Kd α} {e : Nat} {base : Nat} {ok : Nat → Prop} {v : Value} {xs : List α} (h : IsS107 w0 W g f0 f1 f2) (ho : d.R e W base ok v xs) (ht : ∀ q, q ∈ e :: d.E → q ≠ 107) : d.R e W base (fun k => ok k ∧ k ≠ g) v xs := by
 (obtain ⟨A0, c0, hb, hg, hr0⟩ := h); (exact Kd.R_types ho hb ht)
theorem IsS107.own_ne {w0 W : World} {g : Nat} {f0 : List Int} {f1 : Int} {f2 : Int} {α : Type} {d : Kd α} {e : Nat} {base : Nat} {ok : Nat → Prop} {v : Value} {xs : List α} (h : IsS107 w0 W g f0 f1 f2) (ho : d.R e W base ok v xs) (ht : e ≠ 107) : some g ≠ v.ownBlock := by
 (obtain ⟨A0, c0, hb, hg, hr0⟩ := h); (exact Kd.R_ne ho hb ht)
theorem IsS107.lt {w0 W : World} {g : Nat} {f0 : List Int} {f1 : Int} {f2 : Int} (h : IsS107 w0 W g f0 f1 f2) : g < W.heap.size := by
 (obtain ⟨A0, c0, hb, hg, hr0⟩ := h); (exact blk_lt hb)
theorem IsS107.ge {w0 W : World} {g : Nat} {f0 : List Int} {f1 : Int} {f2 : Int} (h : IsS107 w0 W g f0 f1 f2) : w0.heap.size ≤ g := by
 (obtain ⟨A0, c0, hb, hg, hr0⟩ := h); (exact hg)
theorem IsS107.far {w0 W : World} {g : Nat} {f0 : List Int} {f1 : Int} {f2 : Int} {p : Addr} (h : IsS107 w0 W g f0 f1 f2) (hne : g ≠ p.block) (u : Value) : IsS107 w0 (W.setCell p u) g f0 f1 f2 := by
 (obtain ⟨A0, c0, hb, hg, hr0⟩ := h); (exact ⟨A0, c0, blk_far hb hne u, hg, hr0⟩)
theorem cellS107_0 {W : World} {g : Nat} {A0 : Option Addr} {c0 : Nat} {f0 : List Int} {f1 : Int} {f2 : Int} (h : W.heap[g]? = some (.cells #[.slice A0 f0.length c0, .int .i64 f1, .int .i64 f2] 107 (0, 0))) : W.cell? ⟨g, 0, none⟩ = some (.slice A0 f0.length c0) := (blk_cell h 0).trans rfl
theorem cellS107_1 {W : World} {g : Nat} {A0 : Option Addr} {c0 : Nat} {f0 : List Int} {f1 : Int} {f2 : Int} (h : W.heap[g]? = some (.cells #[.slice A0 f0.length c0, .int .i64 f1, .int .i64 f2] 107 (0, 0))) : W.cell? ⟨g, 1, none⟩ = some (.int .i64 f1) := (blk_cell h 1).trans rfl
theorem IsS107.set_1 {w0 W : World} {g : Nat} {f0 : List Int} {f1 : Int} {f2 : Int} (h : IsS107 w0 W g f0 f1 f2) (x : Int) : IsS107 w0 (W.setCell ⟨g, 1, none⟩ (.int .i64 x)) g f0 x f2 := by
 (obtain ⟨A0, c0, hb, hg, hr0⟩ := h); (exact ⟨A0, c0, by simpa using blk_set hb 1 (.int .i64 x), hg, hr0⟩)
theorem cellS107_2 {W : World} {g : Nat} {A0 : Option Addr} {c0 : Nat} {f0 : List Int} {f1 : Int} {f2 : Int} (h : W.heap[g]? = some (.cells #[.slice A0 f0.length c0, .int .i64 f1, .int .i64 f2] 107 (0, 0))) : W.cell? ⟨g, 2, none⟩ = some (.int .i64 f2) := (blk_cell h 2).trans rfl
theorem IsS107.set_2 {w0 W : World} {g : Nat} {f0 : List Int} {f1 : Int} {f2 : Int} (h : IsS107 w0 W g f0 f1 f2) (x : Int) : IsS107 w0 (W.setCell ⟨g, 2, none⟩ (.int .i64 x)) g f0 f1 x := by
 (obtain ⟨A0, c0, hb, hg, hr0⟩ := h); (exact ⟨A0, c0, by simpa using blk_set hb 2 (.int .i64 x), hg, hr0⟩)
def spec_l01Next.f (s0_0 : List Int) (s0_1 : Int) (s0_2 : Int) (a1 : Int) : Option (Int × Int × Int) := if a1 ≤ 1 then (some (0, s0_1, s0_2)) else (if s0_1 < (s0_0.length : Int) then (if 0 ≤ s0_1 then (if a1 ≤ 256 then (if (Int.tmod (wrap64 (s0_1 + 1)) 2) = 0 then (if 0 ≤ (wrap64 ((wrap64 (s0_1 + 1)) - 1)) then (if (wrap64 ((wrap64 (s0_1 + 1)) - 1)) < (s0_0.length : Int) then (if a1 = 0 then (none) else (some (Int.tmod (wrap64 (rd s0_0 (wrap64 ((wrap64 (s0_1 + 1)) - 1)))) a1, wrap64 (s0_1 + 1), Int.tmod (wrap64 ((wrap64 (s0_2 * 48271)) + 29)) 2147483647))) else (none)) else (none)) else (if a1 = 0 then (none) else (some (Int.tmod (wrap64 ((wrap64 (Int.tdiv (Int.tmod (wrap64 ((wrap64 (s0_2 * 48271)) + 29)) 2147483647) 31)) + (wrap64 (rd s0_0 s0_1)))) a1, wrap64 (s0_1 + 1), Int.tmod (wrap64 ((wrap64 (s0_2 * 48271)) + 29)) 2147483647)))) else (if a1 = 0 then (none) else (some (Int.tmod (wrap64 ((wrap64 (Int.tdiv (Int.tmod (wrap64 ((wrap64 (s0_2 * 48271)) + 29)) 2147483647) 31)) + (wrap64 (rd s0_0 s0_1)))) a1, wrap64 (s0_1 + 1), Int.tmod (wrap64 ((wrap64 (s0_2 * 48271)) + 29)) 2147483647)))) else (none)) else (if a1 = 0 then (none) else (some (Int.tmod (wrap64 (Int.tdiv (Int.tmod (wrap64 ((wrap64 (s0_2 * 48271)) + 29)) 2147483647) 31)) a1, s0_1, Int.tmod (wrap64 ((wrap64 (s0_2 * 48271)) + 29)) 2147483647))))
set_option maxHeartbeats 8000000 in
set_option maxRecDepth 100000 in
theorem spec_l01Next.calls (g : Nat) (s0_0 : List Int) (s0_1 : Int) (s0_2 : Int) (a1 : Int) (r1 : Int) (r2 : Int) (r3 : Int) (w0 w : World) (hI : IsS107 w0 w g s0_0 s0_1 s0_2) (hB : Below w0.heap.size w0 w) (h : spec_l01Next.f s0_0 s0_1 s0_2 a1 = some (r1, r2, r3)) :
    Calls Try.prog 57 #[.pointer (some ⟨g, 0, none⟩), .int .i64 a1] w fun e w' => e = .returned (.int .i64 r1) ∧ IsS107 w0 w' g s0_0 r2 r3 ∧ Below w0.heap.size w0 w' ∧ KeepBut w w' g none := by
 (have HI0 := A0_ hI); (have HK := A0_ (KeepBut.refl w g none)); (have HL := A0_ hB.size); clear hI; (have HW0 := A0_ hB.size); (have HB := A0_ hB); clear hB; (have H : (if a1 ≤ 1 then (some (0, s0_1, s0_2)) else (if s0_1 < (s0_0.length : Int) then (if 0 ≤ s0_1 then (if a1 ≤ 256 then (if (Int.tmod (wrap64 (s0_1 + 1)) 2) = 0 then (if 0 ≤ (wrap64 ((wrap64 (s0_1 + 1)) - 1)) then (if (wrap64 ((wrap64 (s0_1 + 1)) - 1)) < (s0_0.length : Int) then (if a1 = 0 then (none) else (some (Int.tmod (wrap64 (rd s0_0 (wrap64 ((wrap64 (s0_1 + 1)) - 1)))) a1, wrap64 (s0_1 + 1), Int.tmod (wrap64 ((wrap64 (s0_2 * 48271)) + 29)) 2147483647))) else (none)) else (none)) else (if a1 = 0 then (none) else (some (Int.tmod (wrap64 ((wrap64 (Int.tdiv (Int.tmod (wrap64 ((wrap64 (s0_2 * 48271)) + 29)) 2147483647) 31)) + (wrap64 (rd s0_0 s0_1)))) a1, wrap64 (s0_1 + 1), Int.tmod (wrap64 ((wrap64 (s0_2 * 48271)) + 29)) 2147483647)))) else (if a1 = 0 then (none) else (some (Int.tmod (wrap64 ((wrap64 (Int.tdiv (Int.tmod (wrap64 ((wrap64 (s0_2 * 48271)) + 29)) 2147483647) 31)) + (wrap64 (rd s0_0 s0_1)))) a1, wrap64 (s0_1 + 1), Int.tmod (wrap64 ((wrap64 (s0_2 * 48271)) + 29)) 2147483647)))) else (none)) else (if a1 = 0 then (none) else (some (Int.tmod (wrap64 (Int.tdiv (Int.tmod (wrap64 ((wrap64 (s0_2 * 48271)) + 29)) 2147483647) 31)) a1, s0_1, Int.tmod (wrap64 ((wrap64 (s0_2 * 48271)) + 29)) 2147483647))))) = some (r1, r2, r3) := h); clear h; (by_cases c3 : a1 ≤ 1)
 ·(rw [if_pos c3] at H); (have c3b0 : decide (a1 ≤ 1) = true := decide_eq_true c3); clear c3; (simp only [Option.some.injEq, Prod.mk.injEq] at H); (obtain ⟨rfl, rfl, rfl⟩ := H); (go_enter Try.func57, Try.ntmps57); go_wp2; (repeat (go_quiet (fail); try go_wp2)); go_ret; (exact ⟨er_, by repeat (first | (with_reducible first | exact HI0.out | apply IsS107.alloc | apply IsS107.drewN | apply IsS107.drew | apply IsS107.set_1 | apply IsS107.set_2) | exact HI0.out), by repeat (first | (with_reducible first | exact HB.out | apply ba_ | apply bn_ | apply bd_ | refine below_set ?_ (IsS107.ge HI0.out)) | exact HB.out), by repeat (first | (with_reducible first | exact HK.out | apply ks_ | apply kn_ | apply kd_ | apply ka_) | exact HK.out)⟩)
 ·(rw [if_neg c3] at H); (have c3b0 : decide (a1 ≤ 1) = false := decide_eq_false c3); clear c3; (by_cases c4 : s0_1 < (s0_0.length : Int))
  ·(rw [if_pos c4] at H); (have c4b0 : decide (s0_1 < (s0_0.length : Int)) = true := decide_eq_true c4); clear c4; (by_cases c5 : 0 ≤ s0_1)
   ·(rw [if_pos c5] at H); (have c5b0 : decide (0 ≤ s0_1) = true := decide_eq_true c5); clear c5; (by_cases c6 : a1 ≤ 256)
    ·(rw [if_pos c6] at H); (have c6b0 : decide (a1 ≤ 256) = true := decide_eq_true c6); clear c6; (by_cases c7 : (Int.tmod (wrap64 (s0_1 + 1)) 2) = 0)
     ·(rw [if_pos c7] at H); (have c7b0 : ((Int.tmod (wrap64 (s0_1 + 1)) 2) == 0) = true := beq_iff_eq.mpr c7); (have c7b1 : ((Int.tmod (wrap64 (s0_1 + 1)) 2) != 0) = false := bne_eq_false_iff_eq.mpr c7); clear c7; (obtain ⟨ji8, hji8⟩ : ∃ j_ : Int, (wrap64 ((wrap64 (s0_1 + 1)) - 1)) = j_ := ⟨_, rfl⟩); (replace H : (if 0 ≤ (ji8) then (if (ji8) < (s0_0.length : Int) then (if a1 = 0 then (none) else (some (Int.tmod (wrap64 (rd s0_0 (ji8))) a1, wrap64 (s0_1 + 1), Int.tmod (wrap64 ((wrap64 (s0_2 * 48271)) + 29)) 2147483647))) else (none)) else (none)) = some (r1, r2, r3) := by first | (rw [hji8] at H; exact H) | (simp only [hji8] at H ⊢; exact H)); (have hji8w : (IntKind.i64.wrap ((wrap64 (s0_1 + 1)) - 1)) = ji8 := (i64_w _).trans hji8); (by_cases c9 : 0 ≤ (ji8))
      ·(rw [if_pos c9] at H); (have c9b0 : decide (0 ≤ (ji8)) = true := decide_eq_true c9); clear c9; (by_cases c10 : (ji8) < (s0_0.length : Int))
       ·(rw [if_pos c10] at H); (have c10b0 : decide ((ji8) < (s0_0.length : Int)) = true := decide_eq_true c10); clear c10; (by_cases c11 : a1 = 0)
        ·(rw [if_pos c11] at H); (exact absurd H (by simp))
        ·(rw [if_neg c11] at H); (have c11b0 : (a1 == 0) = false := beq_eq_false_iff_ne.mpr c11); (have c11b1 : (a1 != 0) = true := bne_iff_ne.mpr c11); (simp only [Option.some.injEq, Prod.mk.injEq] at H); (obtain ⟨rfl, rfl, rfl⟩ := H); (obtain ⟨ASz12_0, cSz12_0, HGz12, hgz12, HSz12_0⟩ := HI0.out); (have hcz12_0 := cellS107_0 HGz12); (have hcz12_1 := cellS107_1 HGz12); (have hcz12_2 := cellS107_2 HGz12); (have hfz12_1 := blk_frozen HGz12 1); (have hfz12_2 := blk_frozen HGz12 2); clear HGz12 hgz12; (have p101 : 0 ≤ (s0_1 : Int) := of_decide_eq_true as_); (have q101 : s0_1 < (s0_0.length : Int) := of_decide_eq_true as_); (obtain ⟨ad101, e101, hx101_0⟩ := Kd.at_int HSz12_0 s0_1 p101 q101); (cases e101); (have hn101_0 : ad101.block ≠ g := Nat.ne_of_lt (Nat.lt_of_lt_of_le (by have := World.block_lt_of_cell? _ _ hx101_0; first | rwa [add_block] at this | exact this) (IsS107.ge HI0.out))); (replace hx101_0 := pw_cell_below HB.out hx101_0); (replace hx101_0 := (cell_far (p := ⟨g, 2, none⟩) (by first | (rw [add_block]; exact hn101_0) | (show (Addr.add _ _).block ≠ _; rw [add_block]; exact hn101_0) | exact hn101_0) (.int .i64 (Int.tmod (wrap64 ((wrap64 (s0_2 * 48271)) + 29)) 2147483647))).trans hx101_0)
         (try have hy101_0 := fun (n_ : Nat) => (show (((w.drewN n_).setCell ⟨g, 2, none⟩ (.int .i64 (Int.tmod (wrap64 ((wrap64 (s0_2 * 48271)) + 29)) 2147483647)))).cell? _ = some _ from hx101_0))
         clear hn101_0; (replace p101 := eq_true p101); (replace q101 := eq_true q101); (have p102 : 0 ≤ ((ji8) : Int) := of_decide_eq_true as_); (have q102 : (ji8) < (s0_0.length : Int) := of_decide_eq_true as_); (obtain ⟨ad102, e102, hx102_0⟩ := Kd.at_int HSz12_0 (ji8) p102 q102); (obtain rfl : ad101 = ad102 := (by injection e102)); (have hn102_0 : ad101.block ≠ g := Nat.ne_of_lt (Nat.lt_of_lt_of_le (by have := World.block_lt_of_cell? _ _ hx102_0; first | rwa [add_block] at this | exact this) (IsS107.ge HI0.out))); (have hn102_1 : ad101.block ≠ g := Nat.ne_of_lt (Nat.lt_of_lt_of_le (by have := World.block_lt_of_cell? _ _ hx102_0; first | rwa [add_block] at this | exact this) (IsS107.ge HI0.out))); (replace hx102_0 := pw_cell_below HB.out hx102_0); (replace hx102_0 := (cell_far (p := ⟨g, 2, none⟩) (by first | (rw [add_block]; exact hn102_0) | (show (Addr.add _ _).block ≠ _; rw [add_block]; exact hn102_0) | exact hn102_0) (.int .i64 (Int.tmod (wrap64 ((wrap64 (s0_2 * 48271)) + 29)) 2147483647))).trans hx102_0); (replace hx102_0 := (cell_far (p := ⟨g, 1, none⟩) (by first | (rw [add_block]; exact hn102_1) | (show (Addr.add _ _).block ≠ _; rw [add_block]; exact hn102_1) | exact hn102_1) (.int .i64 (wrap64 (s0_1 + 1)))).trans hx102_0)
         (try have hy102_0 := fun (n_ : Nat) => (show ((((w.drewN n_).setCell ⟨g, 2, none⟩ (.int .i64 (Int.tmod (wrap64 ((wrap64 (s0_2 * 48271)) + 29)) 2147483647))).setCell ⟨g, 1, none⟩ (.int .i64 (wrap64 (s0_1 + 1))))).cell? _ = some _ from hx102_0))
         (try have hz102_0 := fun (n_ : Nat) => (show ((((w.setCell ⟨g, 2, none⟩ (.int .i64 (Int.tmod (wrap64 ((wrap64 (s0_2 * 48271)) + 29)) 2147483647))).drewN n_).setCell ⟨g, 1, none⟩ (.int .i64 (wrap64 (s0_1 + 1))))).cell? _ = some _ from hx102_0))
         clear hn102_0; clear hn102_1; (replace p102 := eq_true p102); (replace q102 := eq_true q102); (go_enter Try.func57, Try.ntmps57); go_wp2; (repeat (go_quiet (fail); try go_wp2)); go_ret; (exact ⟨by first | rfl | (simp [errW_none, errW_some] <;> rfl) | (simp only [← hji8]; first | rfl | (simp [errW_none, errW_some] <;> rfl)) | (simp [*, errW_none, errW_some] <;> rfl), by repeat (first | (with_reducible first | exact HI0.out | apply IsS107.alloc | apply IsS107.drewN | apply IsS107.drew | apply IsS107.set_1 | apply IsS107.set_2) | exact HI0.out), by repeat (first | (with_reducible first | exact HB.out | apply ba_ | apply bn_ | apply bd_ | refine below_set ?_ (IsS107.ge HI0.out)) | exact HB.out), by repeat (first | (with_reducible first | exact HK.out | apply ks_ | apply kn_ | apply kd_ | apply ka_) | exact HK.out)⟩)
       ·(rw [if_neg c10] at H); (exact absurd H (by simp))
      ·(rw [if_neg c9] at H); (exact absurd H (by simp))
     ·(rw [if_neg c7] at H); (have c7b0 : ((Int.tmod (wrap64 (s0_1 + 1)) 2) == 0) = false := beq_eq_false_iff_ne.mpr c7); (have c7b1 : ((Int.tmod (wrap64 (s0_1 + 1)) 2) != 0) = true := bne_iff_ne.mpr c7); (by_cases c13 : a1 = 0)
      ·(rw [if_pos c13] at H); (exact absurd H (by simp))
      ·(rw [if_neg c13] at H); (have c13b0 : (a1 == 0) = false := beq_eq_false_iff_ne.mpr c13); (have c13b1 : (a1 != 0) = true := bne_iff_ne.mpr c13); (simp only [Option.some.injEq, Prod.mk.injEq] at H); (obtain ⟨rfl, rfl, rfl⟩ := H); (obtain ⟨ASz14_0, cSz14_0, HGz14, hgz14, HSz14_0⟩ := HI0.out); (have hcz14_0 := cellS107_0 HGz14); (have hcz14_1 := cellS107_1 HGz14); (have hcz14_2 := cellS107_2 HGz14); (have hfz14_1 := blk_frozen HGz14 1); (have hfz14_2 := blk_frozen HGz14 2); clear HGz14 hgz14; (have p101 : 0 ≤ (s0_1 : Int) := of_decide_eq_true as_); (have q101 : s0_1 < (s0_0.length : Int) := of_decide_eq_true as_); (obtain ⟨ad101, e101, hx101_0⟩ := Kd.at_int HSz14_0 s0_1 p101 q101); (cases e101); (have hn101_0 : ad101.block ≠ g := Nat.ne_of_lt (Nat.lt_of_lt_of_le (by have := World.block_lt_of_cell? _ _ hx101_0; first | rwa [add_block] at this | exact this) (IsS107.ge HI0.out))); (replace hx101_0 := pw_cell_below HB.out hx101_0); (replace hx101_0 := (cell_far (p := ⟨g, 2, none⟩) (by first | (rw [add_block]; exact hn101_0) | (show (Addr.add _ _).block ≠ _; rw [add_block]; exact hn101_0) | exact hn101_0) (.int .i64 (Int.tmod (wrap64 ((wrap64 (s0_2 * 48271)) + 29)) 2147483647))).trans hx101_0)
       (try have hy101_0 := fun (n_ : Nat) => (show (((w.drewN n_).setCell ⟨g, 2, none⟩ (.int .i64 (Int.tmod (wrap64 ((wrap64 (s0_2 * 48271)) + 29)) 2147483647)))).cell? _ = some _ from hx101_0))
       clear hn101_0; (replace p101 := eq_true p101); (replace q101 := eq_true q101); (go_enter Try.func57, Try.ntmps57); go_wp2; (repeat (go_quiet (fail); try go_wp2)); go_ret; (exact ⟨er_, by repeat (first | (with_reducible first | exact HI0.out | apply IsS107.alloc | apply IsS107.drewN | apply IsS107.drew | apply IsS107.set_1 | apply IsS107.set_2) | exact HI0.out), by repeat (first | (with_reducible first | exact HB.out | apply ba_ | apply bn_ | apply bd_ | refine below_set ?_ (IsS107.ge HI0.out)) | exact HB.out), by repeat (first | (with_reducible first | exact HK.out | apply ks_ | apply kn_ | apply kd_ | apply ka_) | exact HK.out)⟩)
    ·(rw [if_neg c6] at H); (have c6b0 : decide (a1 ≤ 256) = false := decide_eq_false c6); clear c6; (by_cases c15 : a1 = 0)
     ·(rw [if_pos c15] at H); (exact absurd H (by simp))
     ·(rw [if_neg c15] at H); (have c15b0 : (a1 == 0) = false := beq_eq_false_iff_ne.mpr c15); (have c15b1 : (a1 != 0) = true := bne_iff_ne.mpr c15); (simp only [Option.some.injEq, Prod.mk.injEq] at H); (obtain ⟨rfl, rfl, rfl⟩ := H); (obtain ⟨ASz16_0, cSz16_0, HGz16, hgz16, HSz16_0⟩ := HI0.out); (have hcz16_0 := cellS107_0 HGz16); (have hcz16_1 := cellS107_1 HGz16); (have hcz16_2 := cellS107_2 HGz16); (have hfz16_1 := blk_frozen HGz16 1); (have hfz16_2 := blk_frozen HGz16 2); clear HGz16 hgz16; (have p101 : 0 ≤ (s0_1 : Int) := of_decide_eq_true as_); (have q101 : s0_1 < (s0_0.length : Int) := of_decide_eq_true as_); (obtain ⟨ad101, e101, hx101_0⟩ := Kd.at_int HSz16_0 s0_1 p101 q101); (cases e101); (have hn101_0 : ad101.block ≠ g := Nat.ne_of_lt (Nat.lt_of_lt_of_le (by have := World.block_lt_of_cell? _ _ hx101_0; first | rwa [add_block] at this | exact this) (IsS107.ge HI0.out))); (replace hx101_0 := pw_cell_below HB.out hx101_0); (replace hx101_0 := (cell_far (p := ⟨g, 2, none⟩) (by first | (rw [add_block]; exact hn101_0) | (show (Addr.add _ _).block ≠ _; rw [add_block]; exact hn101_0) | exact hn101_0) (.int .i64 (Int.tmod (wrap64 ((wrap64 (s0_2 * 48271)) + 29)) 2147483647))).trans hx101_0)
      (try have hy101_0 := fun (n_ : Nat) => (show (((w.drewN n_).setCell ⟨g, 2, none⟩ (.int .i64 (Int.tmod (wrap64 ((wrap64 (s0_2 * 48271)) + 29)) 2147483647)))).cell? _ = some _ from hx101_0))
      clear hn101_0; (replace p101 := eq_true p101); (replace q101 := eq_true q101); (go_enter Try.func57, Try.ntmps57); go_wp2; (repeat (go_quiet (fail); try go_wp2)); go_ret; (exact ⟨er_, by repeat (first | (with_reducible first | exact HI0.out | apply IsS107.alloc | apply IsS107.drewN | apply IsS107.drew | apply IsS107.set_1 | apply IsS107.set_2) | exact HI0.out), by repeat (first | (with_reducible first | exact HB.out | apply ba_ | apply bn_ | apply bd_ | refine below_set ?_ (IsS107.ge HI0.out)) | exact HB.out), by repeat (first | (with_reducible first | exact HK.out | apply ks_ | apply kn_ | apply kd_ | apply ka_) | exact HK.out)⟩)
   ·(rw [if_neg c5] at H); (exact absurd H (by simp))
  ·(rw [if_neg c4] at H); (have c4b0 : decide (s0_1 < (s0_0.length : Int)) = false := decide_eq_false c4); clear c4; (by_cases c17 : a1 = 0)
   ·(rw [if_pos c17] at H); (exact absurd H (by simp))
   ·(rw [if_neg c17] at H); (have c17b0 : (a1 == 0) = false := beq_eq_false_iff_ne.mpr c17); (have c17b1 : (a1 != 0) = true := bne_iff_ne.mpr c17); (simp only [Option.some.injEq, Prod.mk.injEq] at H); (obtain ⟨rfl, rfl, rfl⟩ := H); (obtain ⟨ASz18_0, cSz18_0, HGz18, hgz18, HSz18_0⟩ := HI0.out); (have hcz18_0 := cellS107_0 HGz18); (have hcz18_1 := cellS107_1 HGz18); (have hcz18_2 := cellS107_2 HGz18); (have hfz18_1 := blk_frozen HGz18 1); (have hfz18_2 := blk_frozen HGz18 2); clear HGz18 hgz18; (go_enter Try.func57, Try.ntmps57); go_wp2; (repeat (go_quiet (fail); try go_wp2)); go_ret; (exact ⟨er_, by repeat (first | (with_reducible first | exact HI0.out | apply IsS107.alloc | apply IsS107.drewN | apply IsS107.drew | apply IsS107.set_1 | apply IsS107.set_2) | exact HI0.out), by repeat (first | (with_reducible first | exact HB.out | apply ba_ | apply bn_ | apply bd_ | refine below_set ?_ (IsS107.ge HI0.out)) | exact HB.out), by repeat (first | (with_reducible first | exact HK.out | apply ks_ | apply kn_ | apply kd_ | apply ka_) | exact HK.out)⟩)
end
section
attribute [local go_sem] max2_int min2_int max_two min_two max_three min_three max_four min_four
def spec_l01From.l0 : Nat → List Int → Int → List Int → Int → Int → Option (List Int × Int × Int)
  | 0, _, _, _, _, _ => none
  | k + 1, x0, x4, x304000, x304001, x304002 => if x4 < (x0.length : Int) then (if x4 < 64 then (if 0 ≤ x4 then (spec_l01From.l0 k x0 (wrap64 (x4 + 1)) x304000 x304001 (Int.tmod (wrap64 ((wrap64 (x304002 * 47)) + (wrap64 (rd x0 x4)))) 2147483647)) else (none)) else (some (x304000, x304001, x304002))) else (some (x304000, x304001, x304002))
def spec_l01From.f (k : Nat) (l0 : List Int) : Option (List Int × Int × Int) := spec_l01From.l0 k l0 0 l0 0 61003
def spec_l01From.T5 : Bool × List (List Nat × List Nat) := (true, [([], []), ([], []), ([1], [1]), ([2], [2]), ([3], [3]), ([4], [4]), ([], []), ([], []), ([6, 7], [6, 7]), ([8], [8]), ([9], [9]), ([5, 10], [5, 10]), ([11], [11]), ([0, 0, 1, 2, 3, 4, 5, 6, 7, 8, 9, 10, 11, 12], [0]), ([13, 0, 1, 2, 3, 4, 5, 6, 7, 8, 9, 10, 11, 12], [13]), ([14, 12, 0, 1, 2, 3, 4, 5, 6, 7, 8, 9, 10, 11, 12], [12, 14])])
def spec_l01From.B5 : List Nat := [0, 0, 2, 6, 14, 30, 0, 0, 192, 448, 960, 2046, 4094, 8191, 16383, 32767]
theorem spec_l01From.tab5 : rtab .any (opsOf Try.f42 5) = spec_l01From.T5 := by kernel_rfl
theorem spec_l01From.bits5 : waitsOk spec_l01From.T5.2 spec_l01From.B5 = true := by kernel_rfl
set_option maxHeartbeats 8000000 in
set_option maxRecDepth 100000 in
theorem spec_l01From.calls (k : Nat) (A0 : Option Addr) (c0 : Nat) (l0 : List Int) (r1 : List Int) (r2 : Int) (r3 : Int) (w0 w : World) (hB : Below w0.heap.size w0 w) (hr0 : Kd.C (Kd.int .u8) w0 A0 l0.length l0) (hc0 : l0.length ≤ c0) (h : spec_l01From.f k l0 = some (r1, r2, r3)) :
    Calls Try.prog 42 #[.slice A0 l0.length c0] w fun e w' => ∃ g_ : Nat, e = .returned (.pointer (some ⟨g_, 0, none⟩)) ∧ IsS107 w0 w' g_ r1 r2 r3 ∧ Below w0.heap.size w0 w' ∧ Below w.heap.size w w' := by
 (have hu107 := Try.underlying107); (have HR0 := A0_ hr0); (have HC0 := A0_ hc0); clear hr0 hc0; (have HBW := A0_ (Below.refl w.heap.size w)); (have HW0 := A0_ hB.size); (have HB := A0_ hB); clear hB; (have H : (spec_l01From.l0 k l0 0 l0 0 61003) = some (r1, r2, r3) := h); clear h; (have H' := A0_ H); clear H; (go_enter Try.func42, Try.ntmps42); (go_wp2_with (first | ((with_reducible refine gate_dst (N := 7) rfl ?_); refine be_ (N := 7) (cs := #[.slice A0 l0.length c0, .int .i64 0, .int .i64 61003]) (t := 107) ?_; intro gb303 hg w2 hbox hb; have n0_ := A0_ (below_step HBW.out hb); have n1_ := A0_ (below_step bw_ hb); have n2_ := A0_ (hbox); have n3_ := A0_ ((by rw [hg]; exact (below_size (by repeat (first | (with_reducible first | exact HBW.out | apply ba_ | apply bn_ | apply bd_) | exact HBW.out))) : w.heap.size ≤ gb303)); have n4_ := A0_ ((Nat.le_trans HW0.out (by rw [hg]; exact (below_size (by repeat (first | (with_reducible first | exact HBW.out | apply ba_ | apply bn_ | apply bd_) | exact HBW.out))) : w.heap.size ≤ gb303) : w0.heap.size ≤ gb303)); clear HBW; clear HB; have HBW := n0_; have HB := n1_; have BK303 := n2_; have GW303 := n3_; have GE303 := n4_; clear n0_ n1_ n2_ n3_ n4_; clear hb hbox hg)))
 go_loopg [4] k (fun kq v4 w' => ∃ (x4_1 : Int) (x304002_1 : Int), v4 = .int .i64 x4_1 ∧ Aside0 (spec_l01From.l0 kq l0 x4_1 l0 0 x304002_1 = some (r1, r2, r3)) ∧ Aside0 (kq ≤ k) ∧ Aside0 (w'.heap[gb303]? = some (.cells #[(.slice A0 l0.length c0), .int .i64 0, .int .i64 x304002_1] 107 (0, 0))) ∧ Aside0 (Below w0.heap.size w0 w') ∧ Aside0 (Below w.heap.size w w'))
 case atStart => exact ⟨(0), (61003), (by first | rfl | (simp; done) | (simp [*]; done)), H', ⟨Nat.le_refl _⟩, ⟨by exact bk_ BK303⟩, ⟨by repeat (first | (with_reducible first | exact HB.out | apply ba_ | apply bn_ | apply bd_ | refine below_set ?_ GE303.out) | exact HB.out)⟩, ⟨by repeat (first | (with_reducible first | exact HBW.out | apply ba_ | apply bn_ | apply bd_ | refine below_set ?_ GW303.out) | exact HBW.out)⟩⟩
 case round =>
  clear H'; (try clear p2); (obtain ⟨x4_1, x304002_1, rfl, HA, HK1, BK303, HB, HBW⟩ := hrel)
  cases gk with
  | zero => exact absurd HA.out (by simp [spec_l01From.l0])
  | succ k1 =>
   (have H := HA.out); clear HA; (simp only [spec_l01From.l0] at H); (by_cases c3 : x4_1 < (l0.length : Int))
   ·(rw [if_pos c3] at H); (have c3b0 : decide (x4_1 < (l0.length : Int)) = true := decide_eq_true c3); clear c3; (by_cases c4 : x4_1 < 64)
    ·(rw [if_pos c4] at H); (have c4b0 : decide (x4_1 < 64) = true := decide_eq_true c4); clear c4; (by_cases c5 : 0 ≤ x4_1)
     ·(rw [if_pos c5] at H); (have c5b0 : decide (0 ≤ x4_1) = true := decide_eq_true c5); clear c5; (have H' := A0_ H); clear H; (try go_wp2); (have n0_ := A0_ (blk_drew BK303.out)); (have HBW := A0_ (below_drew1 HBW.out)); (have n1_ := A0_ (below_drew1 HB.out)); clear BK303; clear HB; (have BK303 := n0_); (have HB := n1_); clear n0_ n1_; (have p304 : 0 ≤ (x4_1 : Int) := of_decide_eq_true as_); (have q304 : x4_1 < (l0.length : Int) := of_decide_eq_true as_); (obtain ⟨ad304, e304, hx304_0⟩ := Kd.at_int HR0.out x4_1 p304 q304); (have hw304_0 := hx304_0); (cases e304); (replace hx304_0 := pw_cell_below HB.out hx304_0); (replace p304 := eq_true p304); (replace q304 := eq_true q304)
      refine start_ (n := 16) (S := fun w' => w'.cell? ⟨gb303, 0, none⟩ = some (.slice (some ad304) l0.length c0) ∧ w'.cell? ⟨gb303, 1, none⟩ = some (.int .i64 0) ∧ w'.cell? ⟨gb303, 2, none⟩ = some (.int .i64 x304002_1) ∧ w'.cell? (ad304.add (x4_1).toNat) = some (.int .u8 (rd l0 x4_1))) (ds := [15]) #[ff,ff,ff,ff,ff,ff,ff,ff,ff,ff,ff,ff,ff,ff,ff,ff] (by kernel_rfl) rfl rfl ⟨(blk_cell BK303.out 0).trans rfl, (blk_cell BK303.out 1).trans rfl, (blk_cell BK303.out 2).trans rfl, ((HB.out.cell (World.block_lt_of_cell? w0 _ hw304_0)).trans hw304_0)⟩ (fun hHeld => ?_); refine with_tabW spec_l01From.tab5 spec_l01From.bits5 (fun HT_ HW_ => ?_)
      (generalize wr.drew = w6 at BK303 HB HBW hx304_0 hHeld ⊢); (refine on_ 0 (some 18) ?_); (refine on_ 1 (some 19) ?_); (refine on_ 2 (some 20) ?_); (refine on_ 3 (some 21) ?_); (refine on_ 6 (some 24) ?_); (refine on_ 7 (some 25) ?_); (refine on_ 8 (some 26) ?_); (refine tk_ 4 (some 22) ?_); (refine on_ 5 (some 23) ?_); (refine tk_ 9 (some 27) ?_); (refine on_ 10 (some 28) ?_); (refine on_ 11 (some 29) ?_); (refine on_ 12 (some 30) ?_); (refine on_ 13 (some 31) ?_); (refine on_ 14 (some 32) ?_)
      refine ol_ 15 (none) (fun K hK => ?_)
      (have hs7 : w6.cell? ⟨gb303, 2, none⟩ = some (.int .i64 x304002_1) := (blk_cell BK303.out 2).trans rfl); (have hfs7 := blk_frozen BK303.out 2); (refine skip_ (w1 := ?_) (by rfl) rfl ?_ ?_); rotate_left
      ·go_simp; rfl
      (refine hK.out _ _ ?_); clear hK K; (refine dn_ ?_); (try go_wp2); (go_roundg k1)
      case measure => have := HK1.out; omega
      case rel => exact ⟨(wrap64 (x4_1 + 1)), (Int.tmod (wrap64 ((wrap64 (x304002_1 * 47)) + (wrap64 (rd l0 x4_1)))) 2147483647), (by first | rfl | (simp; done) | (simp [*]; done)), H', ⟨by have := HK1.out; omega⟩, ⟨by (with_reducible repeat (first | apply gn_ | apply gd_ | apply ga_)); refine blk_put (cs := #[.slice (some ad304) l0.length c0, .int .i64 0, .int .i64 x304002_1]) ?_ 2 _ rfl; exact bk_ BK303⟩, ⟨by repeat (first | (with_reducible first | exact HB.out | apply ba_ | apply bn_ | apply bd_ | refine below_set ?_ GE303.out) | exact HB.out)⟩, ⟨by repeat (first | (with_reducible first | exact HBW.out | apply ba_ | apply bn_ | apply bd_ | refine below_set ?_ GW303.out) | exact HBW.out)⟩⟩
     ·(rw [if_neg c5] at H); (exact absurd H (by simp))
    ·(rw [if_neg c4] at H); (have c4b0 : decide (x4_1 < 64) = false := decide_eq_false c4); clear c4; (simp only [Option.some.injEq, Prod.mk.injEq] at H); (obtain ⟨rfl, rfl, rfl⟩ := H); go_wp2; go_ret; (exact ⟨_, rfl, (show IsS107 w0 _ gb303 l0 0 x304002_1 from ⟨_, _, by exact bk_ BK303, GE303.out, HR0.out⟩), by repeat (first | (with_reducible first | exact HB.out | apply ba_ | apply bn_ | apply bd_ | refine below_set ?_ GE303.out) | exact HB.out), by repeat (first | (with_reducible first | exact HBW.out | apply ba_ | apply bn_ | apply bd_ | refine below_set ?_ GW303.out) | exact HBW.out)⟩)
   ·(rw [if_neg c3] at H); (have c3b0 : decide (x4_1 < (l0.length : Int)) = false := decide_eq_false c3); clear c3; (simp only [Option.some.injEq, Prod.mk.injEq] at H); (obtain ⟨rfl, rfl, rfl⟩ := H); go_wp2; go_ret; (exact ⟨_, rfl, (show IsS107 w0 _ gb303 l0 0 x304002_1 from ⟨_, _, by exact bk_ BK303, GE303.out, HR0.out⟩), by repeat (first | (with_reducible first | exact HB.out | apply ba_ | apply bn_ | apply bd_ | refine below_set ?_ GE303.out) | exact HB.out), by repeat (first | (with_reducible first | exact HBW.out | apply ba_ | apply bn_ | apply bd_ | refine below_set ?_ GW303.out) | exact HBW.out)⟩)
end
def CodeOk (c : List Int) : Prop := c.length ≤ 140737488351232 ∧ ∀ x ∈ c, 0 ≤ x ∧ x ≤ 255
def SrcOk (c : List Int) (p s : Int) : Prop := 0 ≤ p ∧ p ≤ c.length ∧ 0 ≤ s ∧ s < 2147483647
theorem rd_ok {c : List Int} (h : CodeOk c) {j : Int} (h0 : 0 ≤ j) (h1 : j < c.length) : 0 ≤ rd c j ∧ rd c j ≤ 255 := by
 obtain ⟨m, rfl⟩ := Int.eq_ofNat_of_zero_le h0
 have hm : m < c.length := by omega
 rw [rd_nat c m hm]
 exact h.2 _ (List.getElem_mem hm)
theorem tmod_range {x n : Int} (hx : 0 ≤ x) (hn : 0 < n) : 0 ≤ Int.tmod x n ∧ Int.tmod x n < n := by
 rw [Int.tmod_eq_emod_of_nonneg hx]
 exact ⟨Int.emod_nonneg _ (by omega), Int.emod_lt_of_pos _ hn⟩
theorem tdiv31 {x : Int} (hx : 0 ≤ x) : 0 ≤ Int.tdiv x 31 ∧ Int.tdiv x 31 ≤ x := by
 rw [Int.tdiv_eq_ediv_of_nonneg hx]
 omega
theorem next_ok {c : List Int} (hc : CodeOk c) {p s : Int} (h : SrcOk c p s) (n : Int) :
  ∃ r p' s', spec_l01Next.f c p s n = some (r, p', s') ∧ 0 ≤ r ∧ (n ≤ 1 → r = 0) ∧ (1 < n → r < n) ∧ SrcOk c p' s' := by
 obtain ⟨h0, h1, h2, h3⟩ := h
 have hl := hc.1
 unfold spec_l01Next.f
 by_cases d : n ≤ 1
 ·rw [if_pos d]
  exact ⟨_, _, _, rfl, Int.le_refl _, fun _ => rfl, fun h => absurd h (by omega), h0, h1, h2, h3⟩
 ·rw [if_neg d]
  have e1 : wrap64 (wrap64 (s * 48271) + 29) = s * 48271 + 29 := by unfold wrap64; omega
  rw [e1]
  obtain ⟨s', hs⟩ : ∃ s', s' = Int.tmod (s * 48271 + 29) 2147483647 := ⟨_, rfl⟩
  have hsr := tmod_range (x := s * 48271 + 29) (n := 2147483647) (by omega) (by omega)
  rw [← hs] at hsr ⊢
  have ht := tdiv31 hsr.1
  have hn0 : ¬ n = 0 := by omega
  by_cases q : p < c.length
  ·rw [if_pos q, if_pos h0]
   have ep : wrap64 (p + 1) = p + 1 := by unfold wrap64; omega
   have ep2 : wrap64 (p + 1 - 1) = p := by unfold wrap64; omega
   have hr := rd_ok hc h0 q
   have er : wrap64 (rd c p) = rd c p := by unfold wrap64; omega
   have ed : wrap64 (Int.tdiv s' 31) = Int.tdiv s' 31 := by unfold wrap64; omega
   have es : wrap64 (Int.tdiv s' 31 + rd c p) = Int.tdiv s' 31 + rd c p := by unfold wrap64; omega
   have hS : SrcOk c (p + 1) s' := ⟨by omega, by omega, hsr.1, hsr.2⟩
   have A := tmod_range (x := rd c p) (n := n) hr.1 (by omega)
   have B := tmod_range (x := Int.tdiv s' 31 + rd c p) (n := n) (by omega) (by omega)
   by_cases d2 : n ≤ 256
   ·rw [if_pos d2]
    rw [ep, ep2]
    by_cases d3 : Int.tmod (p + 1) 2 = 0
    ·simp only [if_pos d3, if_pos h0, if_pos q, if_neg hn0, er]
     exact ⟨_, _, _, rfl, A.1, fun h => absurd h d, fun _ => A.2, hS⟩
    ·simp only [if_neg d3, if_neg hn0, er, ed, es]
     exact ⟨_, _, _, rfl, B.1, fun h => absurd h d, fun _ => B.2, hS⟩
   ·simp only [if_neg d2, ep, if_neg hn0, er, ed, es]
    exact ⟨_, _, _, rfl, B.1, fun h => absurd h d, fun _ => B.2, hS⟩
  ·rw [if_neg q, if_neg hn0]
   have ed : wrap64 (Int.tdiv s' 31) = Int.tdiv s' 31 := by unfold wrap64; omega
   rw [ed]
   have A := tmod_range (x := Int.tdiv s' 31) (n := n) ht.1 (by omega)
   exact ⟨_, _, _, rfl, A.1, fun h => absurd h d, fun _ => A.2, h0, h1, hsr.1, hsr.2⟩
theorem from_ok {c : List Int} (hc : CodeOk c) : ∃ p s, SrcOk c p s ∧ Ev (fun k => spec_l01From.f k c) (c, p, s) := by
 have hl := hc.1
 unfold spec_l01From.f
 have key : ∃ r, (∃ p s, SrcOk c p s ∧ r = (c, p, s)) ∧ Ev (fun k => spec_l01From.l0 k c 0 c 0 61003) r := by
  refine ev_inv0 (min c.length 64) (fun (s : Int) _ => 0 ≤ s ∧ s < 2147483647) (fun r => ∃ p s, SrcOk c p s ∧ r = (c, p, s)) (fun s i k => spec_l01From.l0 k c i c 0 s) (fun s hi => ?_) (fun s j hj hi => .inr ?_) 61003 ⟨by omega, by omega⟩
  ·refine ⟨(c, 0, s), ⟨0, s, ⟨Int.le_refl _, by omega, hi.1, hi.2⟩, rfl⟩, Ev.step (f := fun _ => some (c, 0, s)) (fun k => ?_) (Ev.now _)⟩
   simp only [spec_l01From.l0]
   by_cases q : ((min c.length 64 : Nat) : Int) < (c.length : Int)
   ·rw [if_pos q, if_neg (by omega)]
   ·rw [if_neg q]
  ·have hjl : j < c.length := by omega
   have hr := rd_ok hc (j := (j : Int)) (by omega) (by omega)
   have er : wrap64 (rd c (j : Int)) = rd c (j : Int) := by unfold wrap64; omega
   have e : wrap64 (wrap64 (s * 47) + rd c (j : Int)) = s * 47 + rd c (j : Int) := by have := hi.1; have := hi.2; unfold wrap64; omega
   have hs := tmod_range (x := s * 47 + rd c (j : Int)) (n := 2147483647) (by have := hi.1; omega) (by omega)
   refine ⟨Int.tmod (s * 47 + rd c (j : Int)) 2147483647, hs, fun r h2 => Ev.step (fun k => ?_) h2⟩
   simp only [spec_l01From.l0]
   rw [if_pos (by omega), if_pos (by omega), if_pos (by omega), wrap_succ j (by omega), er, e]
 obtain ⟨r, ⟨p, s, h, rfl⟩, hr⟩ := key
 exact ⟨p, s, h, hr⟩
section
attribute [local go_sem] max2_int min2_int max_two min_two max_three min_three max_four min_four
def spec_l27Used.l0 : Nat → List (List (S94)) → Int → Int → Int → Int → Option (Bool)
  | 0, _, _, _, _, _ => none
  | k + 1, x0, x5, x120000, x120001, x120002 => if x5 < (x0.length : Int) then (if 0 ≤ x5 then ((spec_l09Index.f k (rd_L3 x0 x5) x120000 x120001 x120002).bind fun t121 => (if t121 ≥ 0 then (some true) else (spec_l27Used.l0 k x0 (wrap64 (x5 + 1)) x120000 x120001 x120002))) else (none)) else (some false)
def spec_l27Used.f (k : Nat) (l0 : List (List (S94))) (a1_0 : Int) (a1_1 : Int) (a1_2 : Int) : Option (Bool) := spec_l27Used.l0 k l0 0 a1_0 a1_1 a1_2
set_option maxHeartbeats 8000000 in
set_option maxRecDepth 100000 in
theorem spec_l27Used.calls (k : Nat) (A0 : Option Addr) (c0 : Nat) (l0 : List (List (S94))) (a1_0 : Int) (a1_1 : Int) (a1_2 : Int) (r : Bool) (w : World) (hr0 : Kd.C (Kd.slice 94 k94) w A0 l0.length l0) (hc0 : l0.length ≤ c0) (h : spec_l27Used.f k l0 a1_0 a1_1 a1_2 = some r) :
    Calls Try.prog 94 #[.slice A0 l0.length c0, .agg #[.int .i64 a1_0, .int .i64 a1_1, .int .i64 a1_2]] w fun e w' => e = .returned (.bool r) ∧ Below w.heap.size w w' := by
 (have hu94 := Try.underlying94); (have HR0 := A0_ hr0); (have HC0 := A0_ hc0); clear hr0 hc0; (have HB := A0_ (Below.refl w.heap.size w)); (have H : (spec_l27Used.l0 k l0 0 a1_0 a1_1 a1_2) = some r := h); clear h; (have H' := A0_ H); clear H; (go_enter Try.func94, Try.ntmps94); (go_wp2_with (first | ((with_reducible refine gate_dst (N := 3) rfl ?_); refine be_ (N := 3) (cs := #[.int .i64 a1_0, .int .i64 a1_1, .int .i64 a1_2]) (t := 94) ?_; intro gb119 hg w3 hbox hb; have n0_ := A0_ (below_step bw_ hb); have n1_ := A0_ (hbox); have n2_ := A0_ ((by rw [hg]; exact (below_size bw_) : w.heap.size ≤ gb119)); have n3_ := A0_ ((by rw [hg]; exact (below_size bw_) : w.heap.size ≤ gb119)); clear HB; have HB := n0_; have BK119 := n1_; have GW119 := n2_; have GE119 := n3_; clear n0_ n1_ n2_ n3_; clear hb hbox hg)))
 go_loopg [5] k (fun kq v5 w' => ∃ (x5_1 : Int), v5 = .int .i64 x5_1 ∧ Aside0 (spec_l27Used.l0 kq l0 x5_1 a1_0 a1_1 a1_2 = some r) ∧ Aside0 (kq ≤ k) ∧ Aside0 (w'.heap[gb119]? = some (.cells #[.int .i64 a1_0, .int .i64 a1_1, .int .i64 a1_2] 94 (0, 0))) ∧ Aside0 (Below w.heap.size w w'))
 case atStart => exact ⟨(0), (by first | rfl | (simp; done) | (simp [*]; done)), H', ⟨Nat.le_refl _⟩, ⟨by exact bk_ BK119⟩, ⟨by repeat (first | (with_reducible first | exact HB.out | apply ba_ | apply bn_ | apply bd_ | refine below_set ?_ GE119.out) | exact HB.out)⟩⟩
 case round =>
  clear H'; (try clear p2); (obtain ⟨x5_1, rfl, HA, HK1, BK119, HB⟩ := hrel)
  cases gk with
  | zero => exact absurd HA.out (by simp [spec_l27Used.l0])
  | succ k1 =>
   (have H := HA.out); clear HA; (simp only [spec_l27Used.l0] at H); (by_cases c4 : x5_1 < (l0.length : Int))
   ·(rw [if_pos c4] at H); (have c4b0 : decide (x5_1 < (l0.length : Int)) = true := decide_eq_true c4); clear c4; (by_cases c5 : 0 ≤ x5_1)
    ·(rw [if_pos c5] at H); (have c5b0 : decide (0 ≤ x5_1) = true := decide_eq_true c5); clear c5; (replace H := Option.bind_eq_some_iff.mp H); (obtain ⟨t121, A60, H⟩ := H); (try dsimp only at H); (have A6 := A0_ A60); clear A60; (by_cases c7 : t121 ≥ 0)
     ·(rw [if_pos c7] at H); (have c7b0 : decide (0 ≤ t121) = true := decide_eq_true c7); clear c7; (obtain rfl := Option.some.inj H); (try go_wp2); (have n0_ := A0_ (blk_drew BK119.out)); (have n1_ := A0_ (below_drew1 HB.out)); clear BK119; clear HB; (have BK119 := n0_); (have HB := n1_); clear n0_ n1_; (have p120 : 0 ≤ (x5_1 : Int) := of_decide_eq_true as_); (have q120 : x5_1 < (l0.length : Int) := of_decide_eq_true as_); (obtain ⟨ad120, A120_0, c120_0, e120, hx120_0, hl120_0, hi120_0⟩ := at_L3 HR0.out x5_1 p120 q120); (have hw120_0 := hx120_0); (cases e120); (replace hx120_0 := (HB.out.cell (World.block_lt_of_cell? w _ hx120_0)).trans hx120_0); (have HR120_0 := A0_ hi120_0); (have HC120_0 := A0_ hl120_0); clear hi120_0 hl120_0; (replace p120 := eq_true p120); (replace q120 := eq_true q120)
      refine start_ (n := 7) (S := fun w' => w'.cell? ⟨gb119, 0, none⟩ = some (.int .i64 a1_0) ∧ w'.cell? ⟨gb119, 1, none⟩ = some (.int .i64 a1_1) ∧ w'.cell? ⟨gb119, 2, none⟩ = some (.int .i64 a1_2) ∧ w'.cell? (ad120.add (x5_1).toNat) = some (.slice A120_0 (rd_L3 l0 x5_1).length c120_0)) (ds := []) #[ff,ff,ff,ff,ff,ff,ff] (by kernel_rfl) rfl rfl ⟨(blk_cell BK119.out 0).trans rfl, (blk_cell BK119.out 1).trans rfl, (blk_cell BK119.out 2).trans rfl, ((HB.out.cell (World.block_lt_of_cell? w _ hw120_0)).trans hw120_0)⟩ (fun hHeld => ?_)
      (generalize wr.drew = w8 at BK119 HB HR120_0 hx120_0 hHeld ⊢)
      refine pure_ (i := 0) (N := some 12) (v := ?_) (a' := ?_) #[tt,ff,ff,ff,ff,ff,ff] rfl rfl (by kernel_rfl) (fun _ _ _ h => h) (Or.inl ⟨by rfl, ?_⟩) ?_ ?_
      rotate_left
      ·intro w'; go_simp; with_reducible rfl
      rotate_left
      ·(simp only [Act.put, sia_, sz_, ss_, i64_w, i32_w]); rfl
      refine pure_ (i := 1) (N := some 13) (v := ?_) (a' := ?_) #[tt,tt,ff,ff,ff,ff,ff] rfl rfl (by kernel_rfl) (fun _ _ _ h => h) (Or.inl ⟨by rfl, ?_⟩) ?_ ?_
      rotate_left
      ·intro w'; go_simp; with_reducible rfl
      rotate_left
      ·(simp only [Act.put, sia_, sz_, ss_, i64_w, i32_w]); rfl
      refine pure_ (i := 2) (N := some 14) (v := ?_) (a' := ?_) #[tt,tt,tt,ff,ff,ff,ff] rfl rfl (by kernel_rfl) (fun _ _ _ h => h) (Or.inl ⟨by rfl, ?_⟩) ?_ ?_
      rotate_left
      ·intro w'; go_simp; with_reducible rfl
      rotate_left
      ·(simp only [Act.put, sia_, sz_, ss_, i64_w, i32_w]); rfl
      refine take_ (i := 3) (N := some 15) (v := ?_) (a' := ?_) #[tt,tt,tt,tt,ff,ff,ff] rfl rfl (by kernel_rfl) (fun _ _ _ h => h) (Or.inl ⟨by rfl, ?_⟩) hHeld ?_ ?_
      rotate_left
      ·(rintro w' ⟨s0, s1, s2, s3⟩); go_simp; with_reducible rfl
      rotate_left
      ·(simp only [Act.put, sia_, sz_, ss_, i64_w, i32_w]); rfl
      refine take_ (i := 4) (N := some 16) (v := ?_) (a' := ?_) #[tt,tt,tt,tt,tt,ff,ff] rfl rfl (by kernel_rfl) (fun _ _ _ h => h) (Or.inl ⟨by rfl, ?_⟩) hHeld ?_ ?_
      rotate_left
      ·(rintro w' ⟨s0, s1, s2, s3⟩); go_simp; with_reducible rfl
      rotate_left
      ·(simp only [Act.put, sia_, sz_, ss_, i64_w, i32_w]); rfl
      refine one_ (i := 5) (N := some 17) #[tt,tt,tt,tt,tt,tt,ff] rfl rfl (by kernel_rfl) (by decide) (fun K hK => ?_)
      (refine gs_ Try.func110 #[.slice A120_0 (rd_L3 l0 x5_1).length c120_0, .agg #[.int .i64 a1_0, .int .i64 a1_1, .int .i64 a1_2]] ?_); (with_reducible refine (spec_l09Index.calls k1 _ _ (rd_L3 l0 x5_1) a1_0 a1_1 a1_2 t121 _ ?side1 ?side2 A6.out).mono ?_); ((case side1 => exact kc_ (Kd.C_below HR120_0.out HB.out))); ((case side2 => exact HC120_0.out)); (rintro e w9 ⟨rfl, hb⟩); (refine ⟨_, rfl, ?_⟩); (have n0_ := A0_ (blk_below (g := gb119) (o := .cells #[.int .i64 a1_0, .int .i64 a1_1, .int .i64 a1_2] 94 (0, 0)) (bk_ BK119) hb)); (have n1_ := A0_ (below_step bx_ hb)); clear BK119; clear HB; (have BK119 := n0_); (have HB := n1_); clear n0_ n1_; ((try clear hb)); ((try clear hb2)); ((try clear hk)); ((try clear hi))
      refine hK.out _ _ ⟨(blk_cell BK119.out 0).trans rfl, (blk_cell BK119.out 1).trans rfl, (blk_cell BK119.out 2).trans rfl, ((HB.out.cell (World.block_lt_of_cell? w _ hw120_0)).trans hw120_0)⟩ (fun hHeld => ?_)
      clear hK K; (refine nm_ (some 17) ?_)
      refine pure_ (i := 6) (N := some 18) (v := ?_) (a' := ?_) #[tt,tt,tt,tt,tt,tt,tt] rfl rfl (by kernel_rfl) (fun _ _ _ h => h) (Or.inl ⟨by rfl, ?_⟩) ?_ ?_
      rotate_left
      ·intro w'; go_simp; with_reducible rfl
      rotate_left
      ·(simp only [Act.put, sia_, sz_, ss_, i64_w, i32_w]); rfl
      (refine done_ (by kernel_rfl) ?_); (try go_wp2); go_ret; (exact ⟨er_, bx_⟩)
     ·(rw [if_neg c7] at H); (have c7b0 : decide (0 ≤ t121) = false := decide_eq_false c7); clear c7; (have H' := A0_ H); clear H; (try go_wp2); (have n0_ := A0_ (blk_drew BK119.out)); (have n1_ := A0_ (below_drew1 HB.out)); clear BK119; clear HB; (have BK119 := n0_); (have HB := n1_); clear n0_ n1_; (have p120 : 0 ≤ (x5_1 : Int) := of_decide_eq_true as_); (have q120 : x5_1 < (l0.length : Int) := of_decide_eq_true as_); (obtain ⟨ad120, A120_0, c120_0, e120, hx120_0, hl120_0, hi120_0⟩ := at_L3 HR0.out x5_1 p120 q120); (have hw120_0 := hx120_0); (cases e120); (replace hx120_0 := (HB.out.cell (World.block_lt_of_cell? w _ hx120_0)).trans hx120_0); (have HR120_0 := A0_ hi120_0); (have HC120_0 := A0_ hl120_0); clear hi120_0 hl120_0; (replace p120 := eq_true p120); (replace q120 := eq_true q120)
      refine start_ (n := 7) (S := fun w' => w'.cell? ⟨gb119, 0, none⟩ = some (.int .i64 a1_0) ∧ w'.cell? ⟨gb119, 1, none⟩ = some (.int .i64 a1_1) ∧ w'.cell? ⟨gb119, 2, none⟩ = some (.int .i64 a1_2) ∧ w'.cell? (ad120.add (x5_1).toNat) = some (.slice A120_0 (rd_L3 l0 x5_1).length c120_0)) (ds := []) #[ff,ff,ff,ff,ff,ff,ff] (by kernel_rfl) rfl rfl ⟨(blk_cell BK119.out 0).trans rfl, (blk_cell BK119.out 1).trans rfl, (blk_cell BK119.out 2).trans rfl, ((HB.out.cell (World.block_lt_of_cell? w _ hw120_0)).trans hw120_0)⟩ (fun hHeld => ?_)
      (generalize wr.drew = w10 at BK119 HB HR120_0 hx120_0 hHeld ⊢)
      refine pure_ (i := 0) (N := some 12) (v := ?_) (a' := ?_) #[tt,ff,ff,ff,ff,ff,ff] rfl rfl (by kernel_rfl) (fun _ _ _ h => h) (Or.inl ⟨by rfl, ?_⟩) ?_ ?_
      rotate_left
      ·intro w'; go_simp; with_reducible rfl
      rotate_left
      ·(simp only [Act.put, sia_, sz_, ss_, i64_w, i32_w]); rfl
      refine pure_ (i := 1) (N := some 13) (v := ?_) (a' := ?_) #[tt,tt,ff,ff,ff,ff,ff] rfl rfl (by kernel_rfl) (fun _ _ _ h => h) (Or.inl ⟨by rfl, ?_⟩) ?_ ?_
      rotate_left
      ·intro w'; go_simp; with_reducible rfl
      rotate_left
      ·(simp only [Act.put, sia_, sz_, ss_, i64_w, i32_w]); rfl
      refine pure_ (i := 2) (N := some 14) (v := ?_) (a' := ?_) #[tt,tt,tt,ff,ff,ff,ff] rfl rfl (by kernel_rfl) (fun _ _ _ h => h) (Or.inl ⟨by rfl, ?_⟩) ?_ ?_
      rotate_left
      ·intro w'; go_simp; with_reducible rfl
      rotate_left
      ·(simp only [Act.put, sia_, sz_, ss_, i64_w, i32_w]); rfl
      refine take_ (i := 3) (N := some 15) (v := ?_) (a' := ?_) #[tt,tt,tt,tt,ff,ff,ff] rfl rfl (by kernel_rfl) (fun _ _ _ h => h) (Or.inl ⟨by rfl, ?_⟩) hHeld ?_ ?_
      rotate_left
      ·(rintro w' ⟨s0, s1, s2, s3⟩); go_simp; with_reducible rfl
      rotate_left
      ·(simp only [Act.put, sia_, sz_, ss_, i64_w, i32_w]); rfl
      refine take_ (i := 4) (N := some 16) (v := ?_) (a' := ?_) #[tt,tt,tt,tt,tt,ff,ff] rfl rfl (by kernel_rfl) (fun _ _ _ h => h) (Or.inl ⟨by rfl, ?_⟩) hHeld ?_ ?_
      rotate_left
      ·(rintro w' ⟨s0, s1, s2, s3⟩); go_simp; with_reducible rfl
      rotate_left
      ·(simp only [Act.put, sia_, sz_, ss_, i64_w, i32_w]); rfl
      refine one_ (i := 5) (N := some 17) #[tt,tt,tt,tt,tt,tt,ff] rfl rfl (by kernel_rfl) (by decide) (fun K hK => ?_)
      (refine gs_ Try.func110 #[.slice A120_0 (rd_L3 l0 x5_1).length c120_0, .agg #[.int .i64 a1_0, .int .i64 a1_1, .int .i64 a1_2]] ?_); (with_reducible refine (spec_l09Index.calls k1 _ _ (rd_L3 l0 x5_1) a1_0 a1_1 a1_2 t121 _ ?side1 ?side2 A6.out).mono ?_); ((case side1 => exact kc_ (Kd.C_below HR120_0.out HB.out))); ((case side2 => exact HC120_0.out)); (rintro e w11 ⟨rfl, hb⟩); (refine ⟨_, rfl, ?_⟩); (have n0_ := A0_ (blk_below (g := gb119) (o := .cells #[.int .i64 a1_0, .int .i64 a1_1, .int .i64 a1_2] 94 (0, 0)) (bk_ BK119) hb)); (have n1_ := A0_ (below_step bx_ hb)); clear BK119; clear HB; (have BK119 := n0_); (have HB := n1_); clear n0_ n1_; ((try clear hb)); ((try clear hb2)); ((try clear hk)); ((try clear hi))
      refine hK.out _ _ ⟨(blk_cell BK119.out 0).trans rfl, (blk_cell BK119.out 1).trans rfl, (blk_cell BK119.out 2).trans rfl, ((HB.out.cell (World.block_lt_of_cell? w _ hw120_0)).trans hw120_0)⟩ (fun hHeld => ?_)
      clear hK K; (refine nm_ (some 17) ?_)
      refine pure_ (i := 6) (N := some 18) (v := ?_) (a' := ?_) #[tt,tt,tt,tt,tt,tt,tt] rfl rfl (by kernel_rfl) (fun _ _ _ h => h) (Or.inl ⟨by rfl, ?_⟩) ?_ ?_
      rotate_left
      ·intro w'; go_simp; with_reducible rfl
      rotate_left
      ·(simp only [Act.put, sia_, sz_, ss_, i64_w, i32_w]); rfl
      (refine done_ (by kernel_rfl) ?_); (try go_wp2); (go_roundg k1)
      case measure => have := HK1.out; omega
      case rel => exact ⟨(wrap64 (x5_1 + 1)), (by first | rfl | (simp; done) | (simp [*]; done)), H', ⟨by have := HK1.out; omega⟩, ⟨by exact bk_ BK119⟩, ⟨by repeat (first | (with_reducible first | exact HB.out | apply ba_ | apply bn_ | apply bd_ | refine below_set ?_ GE119.out) | exact HB.out)⟩⟩
    ·(rw [if_neg c5] at H); (exact absurd H (by simp))
   ·(rw [if_neg c4] at H); (have c4b0 : decide (x5_1 < (l0.length : Int)) = false := decide_eq_false c4); clear c4; (obtain rfl := Option.some.inj H); go_wp2; go_ret; (exact ⟨er_, bx_⟩)
end
def srcR (w0 : World) (g : Nat) (c : List Int) (p s : Int) : Res where
 P fp w := fp g ∧ g < w.heap.size ∧ IsS107 w0 w g c p s
 mono h q := ⟨h _ q.1, q.2⟩
 move {fp w w'} h q := by
  obtain ⟨h1, h2, A0, c0, hb, hg, hC⟩ := q
  have e := h g h1 h2
  exact ⟨⟨h1, h2⟩, (List.getElem?_eq_some_iff.1 (by rw [Array.getElem?_toList, e]; exact hb) |>.1 |> fun h => by simpa using h), A0, c0, by rw [e]; exact hb, hg, hC⟩
theorem next_calls {w0 : World} {g : Nat} {c : List Int} (hc : CodeOk c) {p s : Int} (hS : SrcOk c p s) (n : Int) (rest : List Res) (w : World) (hs : Sp w0 (srcR w0 g c p s :: rest) w) :
  Calls Try.prog 57 #[.pointer (some ⟨g, 0, none⟩), .int .i64 n] w fun e w' => ∃ r p' s', e = .returned (.int .i64 r) ∧ (0 ≤ r ∧ (n ≤ 1 → r = 0) ∧ (1 < n → r < n)) ∧ SrcOk c p' s' ∧ Sp w0 (srcR w0 g c p' s' :: rest) w' := by
 obtain ⟨r, p', s', hf, h0, h1, h2, h3⟩ := next_ok hc hS n
 obtain ⟨fp, hP, hfp, hcont⟩ := Sp.lend hs (i := 0) rfl
 refine (spec_l01Next.calls g c p s n r p' s' w0 w hP.2.2 hs.below hf).mono ?_
 rintro e w' ⟨rfl, hI, hB, hK⟩
 refine ⟨r, p', s', rfl, ⟨h0, h1, h2⟩, h3, ?_⟩
 have hk : Kept w w' fp := ⟨hK.1, fun i hi hn => hK.2 i hi (fun e => hn (e ▸ hP.1)) (by simp)⟩
 exact hcont w' (srcR w0 g c p' s') (Sp.turns_of hs.below hB hk) ⟨.inl hP.1, Nat.lt_of_lt_of_le hP.2.1 hK.1, hI⟩
theorem from_calls {w : World} {A : Option Addr} {cc : Nat} {c : List Int} (hok : CodeOk c) (hC : Kd.C (Kd.int .u8) w A c.length c) (hcc : c.length ≤ cc) :
  Calls Try.prog 42 #[.slice A c.length cc] w fun e w' => ∃ g p s, e = .returned (.pointer (some ⟨g, 0, none⟩)) ∧ SrcOk c p s ∧ Sp w [srcR w g c p s] w' := by
 obtain ⟨p, s, hS, hE⟩ := from_ok hok
 obtain ⟨K, hK⟩ := hE.rounds
 refine (spec_l01From.calls K A cc c c p s w w (Below.refl _ _) hC hcc hK).mono ?_
 rintro e w' ⟨g, rfl, hI, hB, _⟩
 refine ⟨g, p, s, rfl, hS, ?_⟩
 have hg : w.heap.size ≤ g ∧ g < w'.heap.size := by
  obtain ⟨A0, c0, hb, hg, _⟩ := hI
  exact ⟨hg, blk_lt hb⟩
 exact (Sp.start w).push (r := srcR w g c p s) hB ⟨hg, hg.2, hI⟩
theorem kP_of {w : World} {A : Option Addr} {PS : List (Sl × List Cb)} (h : kSl.C w A PS.length (PS.map Prod.fst)) (hp : ∀ p ∈ PS, p.1.2.1 = p.2.length ∧ p.1.2.1 ≤ p.1.2.2 ∧ kC.C w p.1.1 p.2.length p.2) : kP.C w A PS.length (PS.map Prod.snd) := by
 refine ⟨by rw [List.length_map], h.2.1, fun hn => ?_⟩
 obtain ⟨ad, e, hc⟩ := h.2.2 hn
 refine ⟨ad, e, fun j q hj => ?_⟩
 obtain ⟨p, hpj, rfl⟩ : ∃ p, PS[j]? = some p ∧ p.2 = q := by rw [List.getElem?_map] at hj; exact Option.map_eq_some_iff.1 hj
 obtain ⟨c, hl, hr, hcell⟩ := hc j p.1 (by rw [List.getElem?_map, hpj]; rfl)
 obtain ⟨h1, h2, h3⟩ := hp p (List.mem_of_getElem? hpj)
 refine ⟨c, hl, ?_, hcell⟩
 obtain rfl : c = [slV p.1] := hr
 exact ⟨p.1.1, p.1.2.2, by unfold slV; rw [h1], h1 ▸ h2, h3⟩
theorem used_ev (parts : List (List Cb)) (x : Cb) (hl : parts.length ≤ 1048576) (hz : ∀ p ∈ parts, p.length ≤ 1048576) : ∃ r : Bool, Ev (fun k => spec_l27Used.f k parts x.f0 x.f1 x.f2) r := by
 unfold spec_l27Used.f
 have key : ∃ r, True ∧ Ev (fun k => spec_l27Used.l0 k parts 0 x.f0 x.f1 x.f2) r := by
  refine ev_inv0 parts.length (fun (_ : Unit) _ => True) (fun _ => True) (fun _ i k => spec_l27Used.l0 k parts i x.f0 x.f1 x.f2) (fun s hi => ?_) (fun s j hj hi => ?_) () trivial
  ·exact ⟨false, trivial, Ev.step (f := fun _ => some false) (fun k => by simp only [spec_l27Used.l0]; rw [if_neg (by omega)]) (Ev.now _)⟩
  ·obtain ⟨t, _, ht⟩ := sindex_ev parts[j] x (hz _ (List.getElem_mem hj))
   have hg : rd_L3 parts (j : Int) = parts[j] := by unfold rd_L3; exact getD_nat parts _ j hj
   by_cases c : t ≥ 0
   ·refine .inl ⟨true, trivial, Ev.succ ?_⟩
    simp only [spec_l27Used.l0, show (j : Int) < (parts.length : Int) from by omega, show (0 : Int) ≤ (j : Int) from by omega, if_true, hg]
    refine Ev.bind ht ?_
    simp only [c, if_true]
    exact Ev.now _
   ·refine .inr ⟨(), trivial, fun r h2 => Ev.succ ?_⟩
    simp only [spec_l27Used.l0, show (j : Int) < (parts.length : Int) from by omega, show (0 : Int) ≤ (j : Int) from by omega, if_true, hg, wrap_succ j (by omega)]
    refine Ev.bind ht ?_
    simp only [c, if_false]
    exact h2
 obtain ⟨r, _, h⟩ := key
 exact ⟨r, h⟩
abbrev kC2 : Kd (List Cb) := Kd.slice 94 kC
def slOf : Value → Sl
 | .slice A n c => (A, n, c)
 | _ => (none, 0, 0)
abbrev rowsOf (base : Nat) (L : List (Sl × List Cb)) : List Res := L.map fun p => Res.row kC 94 base (slV p.1) p.2
theorem split_S {w w1 : World} {v : Value} {xss : List (List Cb)} (b : Nat) (hb0 : b ≤ w.heap.size) (hb : Below w.heap.size w w1) (hS : Kd.S kC2 35 w1 w.heap.size (fun _ => True) v xss) :
  ∃ L : List (Sl × List Cb), L.map Prod.snd = xss ∧ Sp w (Res.row kSl 35 b v (L.map Prod.fst) :: rowsOf b L) w1 := by
 obtain ⟨f, hR⟩ := hS
 obtain ⟨h0, inner, ho, hl, hr⟩ := Kd.R_bound hR
 have hl1 : inner.length = xss.length := by rw [hl, List.length_zipIdx]; exact Nat.mul_one _
 have he : ∀ j x, xss[j]? = some x → ∃ u, inner[j]? = some u ∧ slV (slOf u) = u ∧ kC.R 94 w1 w.heap.size (fun k => (w.heap.size ≤ k ∧ k < w1.heap.size) ∧ f k = j ∧ some k ≠ v.ownBlock) u x := by
  intro j x hx
  obtain ⟨u, hcs, hu⟩ := hr j (x, j) (Kd.zip_at hx)
  have hcs : (inner.drop (j * 1)).take 1 = [u] := hcs
  have hj : j < xss.length := (List.getElem?_eq_some_iff.1 hx).1
  have hu1 : inner[j]? = some u := by
   have h1 : ((inner.drop (j * 1)).take 1)[0]? = some u := by rw [hcs]; rfl
   rw [List.getElem?_take, if_pos (by omega), List.getElem?_drop, Nat.mul_one, Nat.add_zero] at h1
   exact h1
  refine ⟨u, hu1, ?_, Kd.R_mono hu (fun k hk => ⟨⟨hk.1.1.2.1, hk.1.1.2.2.1⟩, hk.2, hk.1.2⟩)⟩
  obtain ⟨A, c, rfl⟩ := Kd.R_slice hu
  rfl
 refine ⟨(inner.map slOf).zip xss, ?_, hb, fun j => match j with | 0 => fun k => v.ownBlock = some k | j + 1 => fun k => (w.heap.size ≤ k ∧ k < w1.heap.size) ∧ f k = j ∧ some k ≠ v.ownBlock, ?_, ?_, ?_⟩
 ·rw [List.map_snd_zip]
  rw [List.length_map]; omega
 ·intro j r hj
  cases j with
  | zero =>
   injection hj with hj
   subst hj
   rw [List.map_fst_zip (by rw [List.length_map]; omega)]
   refine Kd.R_of_own ?_ (fun k hk => hk)
   have e1 : encs slV (inner.map slOf) = inner := by
    unfold encs
    rw [List.map_map]
    apply List.ext_getElem?
    intro j
    rw [List.getElem?_map]
    cases hi : inner[j]? with
    | none => rfl
    | some u =>
     have hj : j < xss.length := by have := (List.getElem?_eq_some_iff.1 hi).1; omega
     obtain ⟨u', h1, h2, _⟩ := he j _ (List.getElem?_eq_getElem hj)
     rw [hi] at h1
     injection h1 with h1
     subst h1
     exact congrArg some h2
   rw [e1, List.length_map]
   have h2 := own_weaken ho hb0
   rw [List.length_zipIdx, ← hl1] at h2
   exact h2
  | succ j =>
   rw [List.getElem?_cons_succ] at hj
   unfold rowsOf at hj
   rw [List.getElem?_map] at hj
   obtain ⟨p, hp, rfl⟩ := Option.map_eq_some_iff.1 hj
   obtain ⟨h1, h2⟩ := List.getElem?_zip_eq_some.1 hp
   obtain ⟨u, g1, g2, g3⟩ := he j _ h2
   rw [List.getElem?_map, g1] at h1
   injection h1 with h1
   show kC.R _ w1 b _ (slV p.1) p.2
   rw [← h1, g2]
   exact Kd.R_lower g3 hb0
 ·intro i j k hij hi hj
  cases i with
  | zero =>
   cases j with
   | zero => exact hij rfl
   | succ j => exact hj.2.2 (Eq.symm hi)
  | succ i =>
   cases j with
   | zero => exact hi.2.2 (Eq.symm hj)
   | succ j => exact hij (by have h1 := hi.2.1; have h2 := hj.2.1; omega)
 ·intro i k hi
  cases i with
  | zero => exact ⟨own_base ho k hi, own_lt ho k hi⟩
  | succ i => exact hi.1
theorem Sp.split {w0 w w1 : World} {rs : List Res} {v : Value} {xss : List (List Cb)} (h : Sp w0 rs w) (hb : Below w.heap.size w w1) (hS : Kd.S kC2 35 w1 w.heap.size (fun _ => True) v xss) :
  ∃ L : List (Sl × List Cb), L.map Prod.snd = xss ∧ Sp w0 (Res.row kSl 35 w0.heap.size v (L.map Prod.fst) :: (rowsOf w0.heap.size L ++ rs)) w1 := by
 obtain ⟨L, h1, h2⟩ := split_S w0.heap.size h.below.size hb hS
 exact ⟨L, h1, Sp.app h h2⟩
instance instSl : Inhabited Sl := ⟨(none, 0, 0)⟩
def meetS (a b : List Cb) : Bool := a.any fun c => b.contains c
abbrev pAt (parts : List (List Cb)) (i : Nat) : List Cb := partAt parts (i : Int)
def rowOk (parts : List (List Cb)) (i : Nat) : Bool := solP (pAt parts i) && (conP (pAt parts i) && ((List.range (pAt parts i).length).all (fun c => inCb (cAt (pAt parts i) c) 0 7) && (List.range i).all fun k => !meetS (pAt parts i) (pAt parts k)))
theorem pAt_mem (parts : List (List Cb)) (i : Nat) (h : i < parts.length) : pAt parts i ∈ parts := by
 have : pAt parts i = parts[i] := by unfold pAt partAt; simp [h]
 rw [this]; exact List.getElem_mem _
def asmS (parts : List (List Cb)) : Bool := (decide (2 ≤ parts.length) && decide (parts.length ≤ 4)) && (List.range parts.length).all (rowOk parts)
theorem range_no (q : Nat → Bool) (n j : Nat) (hj : j < n) (h : q j = false) : (List.range n).all q = false := by
 rw [Bool.eq_false_iff]
 intro hc
 rw [List.all_eq_true] at hc
 have := hc j (List.mem_range.2 hj)
 rw [h] at this
 cases this
theorem range_next (q : Nat → Bool) (j : Nat) (h : (List.range j).all q = true) (h2 : q j = true) : (List.range (j + 1)).all q = true := by
 rw [List.range_succ, List.all_append, h]
 simp [h2]
theorem asmS_no (parts : List (List Cb)) (i : Nat) (hi : i < parts.length) (h : rowOk parts i = false) : asmS parts = false := by
 unfold asmS
 rw [range_no _ _ i hi h, Bool.and_false]
theorem asmS_end (parts : List (List Cb)) (hn : inR (parts.length : Int) 2 4 = true) (h : (List.range parts.length).all (rowOk parts) = true) : asmS parts = true := by
 unfold inR at hn
 rw [Bool.and_eq_true, decide_eq_true_eq, decide_eq_true_eq] at hn
 unfold asmS
 rw [h, decide_eq_true (show 2 ≤ parts.length by omega), decide_eq_true (show parts.length ≤ 4 by omega)]
 rfl
theorem asmS_few (parts : List (List Cb)) (hn : inR (parts.length : Int) 2 4 = false) : asmS parts = false := by
 unfold asmS
 have : (decide (2 ≤ parts.length) && decide (parts.length ≤ 4)) = false := by
  rw [← hn]
  unfold inR
  rw [Bool.eq_iff_iff]
  simp only [Bool.and_eq_true, decide_eq_true_eq]
  omega
 rw [this, Bool.false_and]
end Go.Proofs.Ytcobnlilmihjfaa.A


namespace Go.Proofs.Ytcobnlilmihjfaa.A
open Go.RowKit Go.Proofs.YtcobnlilmihjfaaW.PrintWords Go.Proofs.YtcobnlilmihjfaaW.PrintLast Go.Proofs.YtcobnlilmihjfaaW.PrintMore
set_option linter.unusedVariables false
set_option linter.unusedSimpArgs false
section
attribute [local go_sem] min2_int min_two
theorem Sp.slCell0 {w0 w : World} {rs : List Res} {i e base n c : Nat} {ad : Addr} {xs : List Sl} (h : Sp w0 rs w) (hi : rs[i]? = some (Res.row kSl e base (.slice (some ad) n c) xs)) (hj : 0 < n) : w.cell? ad = some (slV (xs.getD 0 (none, 0, 0))) := by
 have := Sp.slCell h hi 0 hj
 rwa [Addr.add_zero'] at this
theorem Sp.some_ {α : Type} {d : Kd α} {w0 w : World} {rs : List Res} {i e base n c : Nat} {A : Option Addr} {xs : List α} (h : Sp w0 rs w) (hi : rs[i]? = some (Res.row d e base (.slice A n c) xs)) (hn : 0 < n) : ∃ ad, A = some ad := by
 obtain ⟨fp, hp, _⟩ := h.get hi
 have hl := (Kd.R_reads' hp).1
 obtain ⟨g, cap, e, _⟩ := Kd.R_form hp (by omega)
 injection e with e _ _
 exact ⟨_, e⟩
theorem Sp.cubeCell {w0 w : World} {rs : List Res} {i e base n c : Nat} {ad : Addr} {xs : List Cb} (h : Sp w0 rs w) (hi : rs[i]? = some (Res.row kC e base (.slice (some ad) n c) xs)) (j : Nat) (hj : j < n) :
  w.cell? (ad.add (j * 3)) = some (.int .i64 (cAt xs j).f0) ∧ w.cell? ⟨(ad.add (j * 3)).block, (ad.add (j * 3)).off + 1, none⟩ = some (.int .i64 (cAt xs j).f1) ∧ w.cell? ⟨(ad.add (j * 3)).block, (ad.add (j * 3)).off + 2, none⟩ = some (.int .i64 (cAt xs j).f2) := by
 have hn := (Sp.reads h hi).1
 subst hn
 obtain ⟨ad2, e2, h0, h1, h2⟩ := at_T94 (Sp.reads h hi).2.2 (j : Int) (by omega) (by omega)
 injection e2 with e2
 subst e2
 rw [show rd_T94 xs (j : Int) = cAt xs j from rfl] at h0 h1 h2
 rw [Int.toNat_natCast] at h0 h1 h2
 exact ⟨h0, h1, h2⟩
end
theorem less_some (a b : Cb) : ∃ r, spec_l09Less.f a.f0 a.f1 a.f2 b.f0 b.f1 b.f2 = some r := by
 unfold spec_l09Less.f
 repeat' split
 all_goals exact ⟨_, rfl⟩
def srtF.T6 : Bool × List (List Nat × List Nat) := (true, [([], []), ([], []), ([1], [1]), ([0, 2], [0, 2]), ([3], [3]), ([4], [4]), ([4], [4]), ([5, 6, 4], [4, 5, 6]), ([7, 4], [4, 7]), ([4], [4]), ([4], [4]), ([9, 10, 4], [4, 9, 10]), ([11, 4], [4, 11]), ([8, 12, 4, 4], [4, 8, 12]), ([4, 13], [4, 13])])
def srtF.B6 : List Nat := [0, 0, 2, 7, 15, 31, 31, 127, 255, 31, 31, 1567, 3615, 8191, 16383]
theorem srtF.tab6 : rtab .any (opsOf Try.f96 6) = srtF.T6 := by kernel_rfl
theorem srtF.bits6 : waitsOk srtF.T6.2 srtF.B6 = true := by kernel_rfl
def srtF.T8 : Bool × List (List Nat × List Nat) := (true, [([], []), ([], []), ([], []), ([1, 2], [1, 2]), ([0, 3], [0, 3]), ([], []), ([], []), ([5, 6], [5, 6]), ([7], [7]), ([8], [8]), ([4, 9, 4], [4, 9]), ([], []), ([], []), ([11, 12], [11, 12]), ([10, 13, 10], [10, 13]), ([14, 14, 0, 1, 2, 3, 4, 5, 6, 7, 8, 9, 10, 11, 12, 13, 14], [1, 11, 14])])
def srtF.B8 : List Nat := [0, 0, 0, 6, 15, 0, 0, 96, 224, 480, 1023, 0, 0, 6144, 16383, 32767]
theorem srtF.tab8 : rtab .any (opsOf Try.f96 8) = srtF.T8 := by kernel_rfl
theorem srtF.bits8 : waitsOk srtF.T8.2 srtF.B8 = true := by kernel_rfl
set_option maxHeartbeats 8000000 in
set_option maxRecDepth 100000 in
theorem sort_calls (A : Option Addr) (c : Nat) (xs : List Cb) (w : World) (hC : kC.C w A xs.length xs) (hc : xs.length ≤ c) (hl : xs.length ≤ 1000) :
  Calls Try.prog 96 #[.slice A xs.length c] w fun e w' => ∃ (v_ : Value) (ys : List Cb), e = .returned v_ ∧ ys.length = xs.length ∧ kC.R 94 w' w.heap.size (fun _ => True) v_ ys ∧ Below w.heap.size w w' := by
 have hu69 := Try.underlying94
 have HS := A0_ (Sp.start w)
 have HC := A0_ hC
 have HXL := A0_ hl
 clear hC hc hl
 go_enter Try.func96, Try.ntmps96
 go_wp2_with (first
  | ((with_reducible refine gate_dst (N := 6) rfl ?_); refine Kd.R_lit kC _ 94 ?hg (N := 6) ?hd (xs := ([] : List Cb)) (inner := []) (ok := fun _ => True) (okp := fun _ => True) ?hr ?hp (fun _ hk => hk) trivial (Below.refl _ _) (Nat.le_refl _) (by simp) ?_; (case hd => rfl); (case hg => rfl); (case hr => first | (go_simp; done) | (go_simp; rfl)); (case hp => exact (Reps.none _ _)); intro vl_ wl_ ho_ hb_ hg_ hn_; clear hg_ hn_; replace HS := A0_ (Sp.made' HS.out hb_ ho_); clear ho_ hb_; obtain ⟨Ao, co, ev_⟩ := Sp.slice HS.out (i := 0) rfl; subst ev_))
 go_loopg [3, 4] (xs.length + 1) (fun kq v3 v4 w' => ∃ (i : Nat) (out : List Cb) (Ao : Option Addr) (co : Nat), v4 = .int .i64 (i : Int) ∧ v3 = .slice Ao out.length co ∧ Aside0 (i ≤ xs.length ∧ kq + i = xs.length + 1 ∧ out.length = i) ∧ Aside0 (Sp w ([Res.row kC 94 w.heap.size (.slice Ao out.length co) out] ++ ([] : List Res)) w'))
 case atStart => exact ⟨0, [], Ao, co, rfl, rfl, ⟨by omega, by omega, rfl⟩, HS⟩
 case round =>
  clear HS
  obtain ⟨i, out, Ao, co, rfl, rfl, HX, HS⟩ := hrel
  obtain ⟨k1, rfl⟩ : ∃ k1, gk = k1 + 1 := ⟨gk - 1, by have := HX.out; omega⟩
  by_cases ci : i < xs.length
  ·have ci0 : decide (i < xs.length) = true := decide_eq_true ci
   have q0 : (0 ≤ (i : Int)) = True := eq_true (by omega)
   have q1 : ((i : Int) < (xs.length : Int)) = True := eq_true (by omega)
   have q2 : (i < xs.length) = True := eq_true ci
   have HW := A0_ (wrap_succ i (by have := HXL.out; omega))
   obtain ⟨adl, e, hx0, hx1, hx2⟩ := at_T94 HC.out (i : Int) (by omega) (by omega)
   subst e
   rw [show rd_T94 xs (i : Int) = cAt xs i from rfl] at hx0 hx1 hx2
   rw [Int.toNat_natCast] at hx0 hx1 hx2
   obtain ⟨x, hx⟩ : ∃ x, x = cAt xs i := ⟨_, rfl⟩
   rw [← hx] at hx0 hx1 hx2
   have HX0 := A0_ hx0
   have HX1 := A0_ hx1
   have HX2 := A0_ hx2
   have HOL := A0_ (show out.length ≤ 1000 by have := HX.out; have := HXL.out; omega)
   have HCI := A0_ ci
   clear ci hx hx0 hx1 hx2
   go_wp2
   go_loopg [5] (out.length + 1) (fun kq v5 w' => ∃ (p : Nat), v5 = .int .i64 (p : Int) ∧ Aside0 (p ≤ out.length ∧ kq + p = out.length + 1) ∧ Aside0 (Sp w ([Res.row kC 94 w.heap.size (.slice Ao out.length co) out] ++ ([] : List Res)) w'))
   case atStart => exact ⟨0, rfl, ⟨by omega, by omega⟩, HS⟩
   case round =>
    clear HS
    obtain ⟨p, rfl, HY, HS⟩ := hrel
    obtain ⟨k2, hk2⟩ : ∃ k2, gk = k2 + 1 := ⟨gk - 1, by have := HY.out; omega⟩
    subst hk2
    by_cases cp : p < out.length
    ·have cp0 : decide (p < out.length) = true := decide_eq_true cp
     have r0 : (0 ≤ (p : Int)) = True := eq_true (by omega)
     have r1 : ((p : Int) < (out.length : Int)) = True := eq_true (by omega)
     have r2 : (p < out.length) = True := eq_true cp
     obtain ⟨ado, eo⟩ := Sp.some_ HS.out (i := 0) rfl (by omega)
     subst eo
     obtain ⟨y, hy⟩ : ∃ y, cAt out p = y := ⟨_, rfl⟩
     have HYC := A0_ hy
     have HP := A0_ cp
     obtain ⟨t, ht⟩ := less_some y x
     have HL := A0_ ht
     have HWP := A0_ (wrap_succ p (by have := HOL.out; omega))
     clear cp hy ht
     go_wp2
     replace HS := A0_ (Sp.drew HS.out)
     cases t with
     | true =>
      refine start_ (n := 15) (S := fun w' => w'.cell? (adl.add (i * 3)) = some (.int .i64 x.f0) ∧ w'.cell? ⟨(adl.add (i * 3)).block, (adl.add (i * 3)).off + 1, none⟩ = some (.int .i64 x.f1) ∧ w'.cell? ⟨(adl.add (i * 3)).block, (adl.add (i * 3)).off + 2, none⟩ = some (.int .i64 x.f2) ∧ w'.cell? (ado.add (p * 3)) = some (.int .i64 y.f0) ∧ w'.cell? ⟨(ado.add (p * 3)).block, (ado.add (p * 3)).off + 1, none⟩ = some (.int .i64 y.f1) ∧ w'.cell? ⟨(ado.add (p * 3)).block, (ado.add (p * 3)).off + 2, none⟩ = some (.int .i64 y.f2)) (ds := []) #[false, false, false, false, false, false, false, false, false, false, false, false, false, false, false] (by kernel_rfl) rfl rfl (⟨pw_cell_below HS.out.below HX0.out, pw_cell_below HS.out.below HX1.out, pw_cell_below HS.out.below HX2.out, (HYC.out ▸ (Sp.cubeCell HS.out (i := 0) rfl p HP.out).1), (HYC.out ▸ (Sp.cubeCell HS.out (i := 0) rfl p HP.out).2.1), (HYC.out ▸ (Sp.cubeCell HS.out (i := 0) rfl p HP.out).2.2)⟩) (fun hHeld => ?_)
      refine with_tabW srtF.tab6 srtF.bits6 (fun HT_ HW_ => ?_)
      generalize wr.drew = wD at HS hHeld ⊢
      refine on_ 0 (some 13) ?_
      refine on_ 1 (some 14) ?_
      refine on_ 2 (some 15) ?_
      refine on_ 3 (some 16) ?_
      refine on_ 4 (some 17) ?_
      refine on_ 5 (some 18) ?_
      refine on_ 6 (some 19) ?_
      refine on_ 7 (some 20) ?_
      refine tk_ 8 (some 21) ?_
      refine on_ 9 (some 22) ?_
      refine on_ 10 (some 23) ?_
      refine on_ 11 (some 24) ?_
      refine tk_ 12 (some 25) ?_
      refine o1_ 13 (some 26) (fun K hK => ?_)
      refine gs_ Try.func109 #[.agg #[.int .i64 y.f0, .int .i64 y.f1, .int .i64 y.f2], .agg #[.int .i64 x.f0, .int .i64 x.f1, .int .i64 x.f2]] ?_
      refine (spec_l09Less.calls y.f0 y.f1 y.f2 x.f0 x.f1 x.f2 _ _ HL.out).mono ?_
      rintro e wA11 ⟨rfl, hb⟩
      refine ⟨_, rfl, ?_⟩
      replace HS := A0_ (Sp.far HS.out hb)
      clear hb
      refine hK.out _ _ (⟨pw_cell_below HS.out.below HX0.out, pw_cell_below HS.out.below HX1.out, pw_cell_below HS.out.below HX2.out, (HYC.out ▸ (Sp.cubeCell HS.out (i := 0) rfl p HP.out).1), (HYC.out ▸ (Sp.cubeCell HS.out (i := 0) rfl p HP.out).2.1), (HYC.out ▸ (Sp.cubeCell HS.out (i := 0) rfl p HP.out).2.2)⟩) (fun hHeld => ?_)
      clear hK K
      refine nm_ (some 26) ?_
      refine on_ 14 (some 27) ?_
      refine dn_ ?_
      go_wp2
      go_roundg k2
      case measure => omega
      case rel =>
       rw [HWP.out]
       exact ⟨p + 1, rfl, ⟨by have := HP.out; omega, by have := HY.out; omega⟩, HS⟩
     | false =>
      refine start_ (n := 15) (S := fun w' => w'.cell? (adl.add (i * 3)) = some (.int .i64 x.f0) ∧ w'.cell? ⟨(adl.add (i * 3)).block, (adl.add (i * 3)).off + 1, none⟩ = some (.int .i64 x.f1) ∧ w'.cell? ⟨(adl.add (i * 3)).block, (adl.add (i * 3)).off + 2, none⟩ = some (.int .i64 x.f2) ∧ w'.cell? (ado.add (p * 3)) = some (.int .i64 y.f0) ∧ w'.cell? ⟨(ado.add (p * 3)).block, (ado.add (p * 3)).off + 1, none⟩ = some (.int .i64 y.f1) ∧ w'.cell? ⟨(ado.add (p * 3)).block, (ado.add (p * 3)).off + 2, none⟩ = some (.int .i64 y.f2)) (ds := []) #[false, false, false, false, false, false, false, false, false, false, false, false, false, false, false] (by kernel_rfl) rfl rfl (⟨pw_cell_below HS.out.below HX0.out, pw_cell_below HS.out.below HX1.out, pw_cell_below HS.out.below HX2.out, (HYC.out ▸ (Sp.cubeCell HS.out (i := 0) rfl p HP.out).1), (HYC.out ▸ (Sp.cubeCell HS.out (i := 0) rfl p HP.out).2.1), (HYC.out ▸ (Sp.cubeCell HS.out (i := 0) rfl p HP.out).2.2)⟩) (fun hHeld => ?_)
      refine with_tabW srtF.tab6 srtF.bits6 (fun HT_ HW_ => ?_)
      generalize wr.drew = wD at HS hHeld ⊢
      refine on_ 0 (some 13) ?_
      refine on_ 1 (some 14) ?_
      refine on_ 2 (some 15) ?_
      refine on_ 3 (some 16) ?_
      refine on_ 4 (some 17) ?_
      refine on_ 5 (some 18) ?_
      refine on_ 6 (some 19) ?_
      refine on_ 7 (some 20) ?_
      refine tk_ 8 (some 21) ?_
      refine on_ 9 (some 22) ?_
      refine on_ 10 (some 23) ?_
      refine on_ 11 (some 24) ?_
      refine tk_ 12 (some 25) ?_
      refine o1_ 13 (some 26) (fun K hK => ?_)
      refine gs_ Try.func109 #[.agg #[.int .i64 y.f0, .int .i64 y.f1, .int .i64 y.f2], .agg #[.int .i64 x.f0, .int .i64 x.f1, .int .i64 x.f2]] ?_
      refine (spec_l09Less.calls y.f0 y.f1 y.f2 x.f0 x.f1 x.f2 _ _ HL.out).mono ?_
      rintro e wA11 ⟨rfl, hb⟩
      refine ⟨_, rfl, ?_⟩
      replace HS := A0_ (Sp.far HS.out hb)
      clear hb
      refine hK.out _ _ (⟨pw_cell_below HS.out.below HX0.out, pw_cell_below HS.out.below HX1.out, pw_cell_below HS.out.below HX2.out, (HYC.out ▸ (Sp.cubeCell HS.out (i := 0) rfl p HP.out).1), (HYC.out ▸ (Sp.cubeCell HS.out (i := 0) rfl p HP.out).2.1), (HYC.out ▸ (Sp.cubeCell HS.out (i := 0) rfl p HP.out).2.2)⟩) (fun hHeld => ?_)
      clear hK K
      refine nm_ (some 26) ?_
      refine on_ 14 (some 27) ?_
      refine dn_ ?_
      go_wp2
      have HPL := A0_ (Nat.le_of_lt HP.out)
      obtain ⟨Ao, hAo⟩ : ∃ Ao, Ao = some ado := ⟨_, rfl⟩
      rw [← hAo] at HS ⊢
      clear hAo
      obtain ⟨Ad, hAd⟩ : ∃ Ad, Ad = (if co = p then Ao else Ao.map (·.add (p * 3))) := ⟨_, rfl⟩
      have hcap := (Sp.reads HS.out (i := 0) rfl).2.1
      have HCD := A0_ (fun (w1 : World) (h : kC.C w1 Ao out.length out) => (show kC.C w1 Ad (out.length - p) (out.drop p) from by have h1 := Kd.C_drop h HPL.out hcap; rw [List.length_drop] at h1; rw [hAd]; exact h1))
      have HCT := A0_ (fun (w1 : World) (h : kC.C w1 Ao out.length out) => (show kC.C w1 Ao p (out.take p) from by have h1 := Kd.C_take h HPL.out; rw [List.length_take, Nat.min_eq_left HPL.out] at h1; exact h1))
      have hpc : (p ≤ co) = True := eq_true (Nat.le_trans HPL.out hcap)
      have hpl : (p ≤ out.length) = True := eq_true HPL.out
      have hAd1 : (if co = p then Ao else Option.map (fun x => x.add (p * 3)) Ao) = Ad := by rw [hAd]
      clear hAd hcap
      replace HS := A0_ (Sp.drew HS.out)
      refine start_ (n := 16) (S := fun w' => w'.cell? (adl.add (i * 3)) = some (.int .i64 x.f0) ∧ w'.cell? ⟨(adl.add (i * 3)).block, (adl.add (i * 3)).off + 1, none⟩ = some (.int .i64 x.f1) ∧ w'.cell? ⟨(adl.add (i * 3)).block, (adl.add (i * 3)).off + 2, none⟩ = some (.int .i64 x.f2)) (ds := []) #[false, false, false, false, false, false, false, false, false, false, false, false, false, false, false, false] (by kernel_rfl) rfl rfl (⟨pw_cell_below HS.out.below HX0.out, pw_cell_below HS.out.below HX1.out, pw_cell_below HS.out.below HX2.out⟩) (fun hHeld => ?_)
      refine with_tabW srtF.tab8 srtF.bits8 (fun HT_ HW_ => ?_)
      generalize wA11.drew = wE at HS hHeld ⊢
      refine on_ 1 (some 31) ?_
      refine on_ 2 (some 32) ?_
      refine on_ 3 (some 33) ?_
      refine on_ 5 (some 35) ?_
      refine on_ 6 (some 36) ?_
      refine on_ 7 (some 37) ?_
      refine tk_ 8 (some 38) ?_
      refine on_ 11 (some 41) ?_
      refine on_ 12 (some 42) ?_
      refine on_ 13 (some 43) ?_
      refine o2_ 0 9 (some 30) (some 39) (fun K hK => ?_) (fun K hK => ?_)
      ·refine Kd.R_lit_step kC _ 94 ?hg (N := 30) ?hd (xs := ([] : List Cb)) (inner := []) (ok := fun _ => True) (okp := fun _ => True) ?hr ?hp (fun _ hk => hk) trivial (Below.refl _ _) (Nat.le_refl _) (by simp) ?_
       (case hd => rfl)
       (case hg => rfl)
       (case hr => first | (go_simp; done) | (go_simp; rfl))
       (case hp => exact (Reps.none _ _))
       intro vA21 wA21 ho hb hg_ hnew_
       clear hg_ hnew_
       replace HS := A0_ (Sp.made' HS.out hb ho)
       clear hb ho
       obtain ⟨AA21, cA21, eA_⟩ := Sp.slice HS.out (i := 0) rfl
       subst eA_
       refine hK.out _ _ (⟨pw_cell_below HS.out.below HX0.out, pw_cell_below HS.out.below HX1.out, pw_cell_below HS.out.below HX2.out⟩) (fun hHeld => ?_)
       clear hK K
       refine nm_ (some 30) ?_
       refine o2_ 4 9 (some 34) (some 39) (fun K hK => ?_) (fun K hK => ?_)
       ·obtain ⟨fp_, ho_, hf_, hc_⟩ := Sp.row HS.out (i := 0) rfl
        refine Kd.R_append_rows_step kC w.heap.size (by rfl) (.tmp 30) (.tmp 33) 35 94 (.agg #[(.int .i64 0), (.int .i64 0), (.int .i64 0)]) 24 rfl Try.underlying35 info94 rfl (by decide) (by omega) _ ([] : List Cb) (out.take p) _ _ _ _ (fun _ => False) rfl rfl ho_ (HCT.out _ (Sp.reads HS.out (i := 1) rfl).2.2) (fun _ _ h => h) (fun _ h => h.elim) (fun _ h => .inr h) HS.out.below HS.out.below.size ?aL ?_
        (case aL => have := HOL.out; have := HPL.out; simp only [List.length_append, List.length_take, List.length_drop, List.length_singleton, List.length_cons, List.length_nil]; omega)
        intro vA22 wA22 ho hb hg hat
        replace HS := A0_ (hc_ _ _ _ ho hg)
        clear ho hb hg hat ho_ hf_ hc_ fp_
        obtain ⟨AA22, cA22, eA_⟩ := Sp.slice HS.out (i := 0) rfl
        subst eA_
        refine hK.out _ _ (⟨pw_cell_below HS.out.below HX0.out, pw_cell_below HS.out.below HX1.out, pw_cell_below HS.out.below HX2.out⟩) (fun hHeld => ?_)
        clear hK K
        refine nm_ (some 34) ?_
        refine o1_ 9 (some 39) (fun K hK => ?_)
        refine Kd.R_lit_step kC _ 94 ?hg (N := 39) ?hd (xs := ([x] : List Cb)) (inner := [.int .i64 x.f0, .int .i64 x.f1, .int .i64 x.f2]) (ok := fun _ => True) (okp := fun _ => True) ?hr ?hp (fun _ hk => hk) trivial (Below.refl _ _) (Nat.le_refl _) (by simp) ?_
        (case hd => rfl)
        (case hg => rfl)
        (case hr => first | (go_simp; done) | (go_simp; rfl))
        (case hp => exact (Reps.c3 (show Kd.M kC _ _ _ x [.int .i64 x.f0, .int .i64 x.f1, .int .i64 x.f2] from k94_mkM _ _ _ x) (Reps.none _ _)))
        intro vA23 wA23 ho hb hg_ hnew_
        clear hg_ hnew_
        replace HS := A0_ (Sp.made' HS.out hb ho)
        clear hb ho
        obtain ⟨AA23, cA23, eA_⟩ := Sp.slice HS.out (i := 0) rfl
        subst eA_
        refine hK.out _ _ (⟨pw_cell_below HS.out.below HX0.out, pw_cell_below HS.out.below HX1.out, pw_cell_below HS.out.below HX2.out⟩) (fun hHeld => ?_)
        clear hK K
        refine nm_ (some 39) ?_
        refine o1_ 10 (some 40) (fun K hK => ?_)
        obtain ⟨fp_, ho_, hf_, hc_⟩ := Sp.row HS.out (i := 1) rfl
        refine Kd.R_append_rows_step kC w.heap.size (by rfl) (.tmp 34) (.tmp 39) 35 94 (.agg #[(.int .i64 0), (.int .i64 0), (.int .i64 0)]) 24 rfl Try.underlying35 info94 rfl (by decide) (by omega) _ (([] : List Cb) ++ out.take p) [x] _ _ _ _ (fun _ => False) rfl rfl ho_ (Sp.reads HS.out (i := 0) rfl).2.2 (fun _ _ h => h) (fun _ h => h.elim) (fun _ h => .inr h) HS.out.below HS.out.below.size ?aL ?_
        (case aL => have := HOL.out; have := HPL.out; simp only [List.length_append, List.length_take, List.length_drop, List.length_singleton, List.length_cons, List.length_nil]; omega)
        intro vA24 wA24 ho hb hg hat
        replace HS := A0_ (hc_ _ _ _ ho hg)
        clear ho hb hg hat ho_ hf_ hc_ fp_
        obtain ⟨AA24, cA24, eA_⟩ := Sp.slice HS.out (i := 1) rfl
        subst eA_
        refine hK.out _ _ (⟨pw_cell_below HS.out.below HX0.out, pw_cell_below HS.out.below HX1.out, pw_cell_below HS.out.below HX2.out⟩) (fun hHeld => ?_)
        clear hK K
        refine nm_ (some 40) ?_
        refine o1_ 14 (some 44) (fun K hK => ?_)
        obtain ⟨fp_, ho_, hf_, hc_⟩ := Sp.row HS.out (i := 1) rfl
        refine Kd.R_append_rows_step kC w.heap.size (by rfl) (.tmp 40) (.tmp 43) 35 94 (.agg #[(.int .i64 0), (.int .i64 0), (.int .i64 0)]) 24 rfl Try.underlying35 info94 rfl (by decide) (by omega) _ ((([] : List Cb) ++ out.take p) ++ [x]) (out.drop p) _ _ _ _ (fun _ => False) rfl rfl ho_ (HCD.out _ (Sp.reads HS.out (i := 2) rfl).2.2) (fun _ _ h => h) (fun _ h => h.elim) (fun _ h => .inr h) HS.out.below HS.out.below.size ?aL ?_
        (case aL => have := HOL.out; have := HPL.out; simp only [List.length_append, List.length_take, List.length_drop, List.length_singleton, List.length_cons, List.length_nil]; omega)
        intro vA25 wA25 ho hb hg hat
        replace HS := A0_ (hc_ _ _ _ ho hg)
        clear ho hb hg hat ho_ hf_ hc_ fp_
        obtain ⟨AA25, cA25, eA_⟩ := Sp.slice HS.out (i := 1) rfl
        subst eA_
        refine hK.out _ _ (⟨pw_cell_below HS.out.below HX0.out, pw_cell_below HS.out.below HX1.out, pw_cell_below HS.out.below HX2.out⟩) (fun hHeld => ?_)
        clear hK K
        refine nm_ (some 44) ?_
        refine on_ 15 (some 3) ?_
        refine dn_ ?_
        replace HS := A0_ (Sp.arr (pre := [Res.row kC 94 w.heap.size (.slice AA23 (([x] : List Cb)).length cA23) (([x] : List Cb)), Res.row kC 94 w.heap.size (.slice AA25 (((([] : List Cb) ++ out.take p) ++ [x]) ++ (out.drop p)).length cA25) (((([] : List Cb) ++ out.take p) ++ [x]) ++ (out.drop p)), Res.row kC 94 w.heap.size (.slice Ao (out).length co) (out)]) (pre' := [Res.row kC 94 w.heap.size (.slice AA25 (((([] : List Cb) ++ out.take p) ++ [x]) ++ (out.drop p)).length cA25) (((([] : List Cb) ++ out.take p) ++ [x]) ++ (out.drop p)), Res.row kC 94 w.heap.size (.slice AA23 (([x] : List Cb)).length cA23) (([x] : List Cb)), Res.row kC 94 w.heap.size (.slice Ao (out).length co) (out)]) (rest := ([] : List Res)) [1, 0, 2] HS.out rfl rfl)
        go_wp2
        go_roundg k1
        case measure => omega
        case rel =>
         rw [HW.out]
         refine ⟨i + 1, _, AA25, cA25, rfl, (by congr 1; have := HPL.out; simp only [List.length_append, List.length_take, List.length_drop, List.length_singleton, List.length_nil, List.length_cons]; omega), ⟨by have := HCI.out; omega, by have := HX.out; omega, ?_⟩, ⟨Sp.pick (rs' := [Res.row kC 94 w.heap.size (.slice AA25 (((([] : List Cb) ++ out.take p) ++ [x]) ++ out.drop p).length cA25) (((([] : List Cb) ++ out.take p) ++ [x]) ++ out.drop p)]) HS.out (fun j => j) (fun _ _ e => e) (fun j r h => by cases j with | zero => exact h | succ j => simp at h)⟩⟩
         have := HPL.out
         have := HX.out
         simp only [List.length_append, List.length_take, List.length_drop, List.length_singleton, List.length_nil, List.length_cons]
         omega
       ·refine Kd.R_lit_step kC _ 94 ?hg (N := 39) ?hd (xs := ([x] : List Cb)) (inner := [.int .i64 x.f0, .int .i64 x.f1, .int .i64 x.f2]) (ok := fun _ => True) (okp := fun _ => True) ?hr ?hp (fun _ hk => hk) trivial (Below.refl _ _) (Nat.le_refl _) (by simp) ?_
        (case hd => rfl)
        (case hg => rfl)
        (case hr => first | (go_simp; done) | (go_simp; rfl))
        (case hp => exact (Reps.c3 (show Kd.M kC _ _ _ x [.int .i64 x.f0, .int .i64 x.f1, .int .i64 x.f2] from k94_mkM _ _ _ x) (Reps.none _ _)))
        intro vA22 wA22 ho hb hg_ hnew_
        clear hg_ hnew_
        replace HS := A0_ (Sp.made' HS.out hb ho)
        clear hb ho
        obtain ⟨AA22, cA22, eA_⟩ := Sp.slice HS.out (i := 0) rfl
        subst eA_
        refine hK.out _ _ (⟨pw_cell_below HS.out.below HX0.out, pw_cell_below HS.out.below HX1.out, pw_cell_below HS.out.below HX2.out⟩) (fun hHeld => ?_)
        clear hK K
        refine nm_ (some 39) ?_
        refine o1_ 4 (some 34) (fun K hK => ?_)
        obtain ⟨fp_, ho_, hf_, hc_⟩ := Sp.row HS.out (i := 1) rfl
        refine Kd.R_append_rows_step kC w.heap.size (by rfl) (.tmp 30) (.tmp 33) 35 94 (.agg #[(.int .i64 0), (.int .i64 0), (.int .i64 0)]) 24 rfl Try.underlying35 info94 rfl (by decide) (by omega) _ ([] : List Cb) (out.take p) _ _ _ _ (fun _ => False) rfl rfl ho_ (HCT.out _ (Sp.reads HS.out (i := 2) rfl).2.2) (fun _ _ h => h) (fun _ h => h.elim) (fun _ h => .inr h) HS.out.below HS.out.below.size ?aL ?_
        (case aL => have := HOL.out; have := HPL.out; simp only [List.length_append, List.length_take, List.length_drop, List.length_singleton, List.length_cons, List.length_nil]; omega)
        intro vA23 wA23 ho hb hg hat
        replace HS := A0_ (hc_ _ _ _ ho hg)
        clear ho hb hg hat ho_ hf_ hc_ fp_
        obtain ⟨AA23, cA23, eA_⟩ := Sp.slice HS.out (i := 1) rfl
        subst eA_
        refine hK.out _ _ (⟨pw_cell_below HS.out.below HX0.out, pw_cell_below HS.out.below HX1.out, pw_cell_below HS.out.below HX2.out⟩) (fun hHeld => ?_)
        clear hK K
        refine nm_ (some 34) ?_
        refine o1_ 10 (some 40) (fun K hK => ?_)
        obtain ⟨fp_, ho_, hf_, hc_⟩ := Sp.row HS.out (i := 1) rfl
        refine Kd.R_append_rows_step kC w.heap.size (by rfl) (.tmp 34) (.tmp 39) 35 94 (.agg #[(.int .i64 0), (.int .i64 0), (.int .i64 0)]) 24 rfl Try.underlying35 info94 rfl (by decide) (by omega) _ (([] : List Cb) ++ out.take p) [x] _ _ _ _ (fun _ => False) rfl rfl ho_ (Sp.reads HS.out (i := 0) rfl).2.2 (fun _ _ h => h) (fun _ h => h.elim) (fun _ h => .inr h) HS.out.below HS.out.below.size ?aL ?_
        (case aL => have := HOL.out; have := HPL.out; simp only [List.length_append, List.length_take, List.length_drop, List.length_singleton, List.length_cons, List.length_nil]; omega)
        intro vA24 wA24 ho hb hg hat
        replace HS := A0_ (hc_ _ _ _ ho hg)
        clear ho hb hg hat ho_ hf_ hc_ fp_
        obtain ⟨AA24, cA24, eA_⟩ := Sp.slice HS.out (i := 1) rfl
        subst eA_
        refine hK.out _ _ (⟨pw_cell_below HS.out.below HX0.out, pw_cell_below HS.out.below HX1.out, pw_cell_below HS.out.below HX2.out⟩) (fun hHeld => ?_)
        clear hK K
        refine nm_ (some 40) ?_
        refine o1_ 14 (some 44) (fun K hK => ?_)
        obtain ⟨fp_, ho_, hf_, hc_⟩ := Sp.row HS.out (i := 1) rfl
        refine Kd.R_append_rows_step kC w.heap.size (by rfl) (.tmp 40) (.tmp 43) 35 94 (.agg #[(.int .i64 0), (.int .i64 0), (.int .i64 0)]) 24 rfl Try.underlying35 info94 rfl (by decide) (by omega) _ ((([] : List Cb) ++ out.take p) ++ [x]) (out.drop p) _ _ _ _ (fun _ => False) rfl rfl ho_ (HCD.out _ (Sp.reads HS.out (i := 2) rfl).2.2) (fun _ _ h => h) (fun _ h => h.elim) (fun _ h => .inr h) HS.out.below HS.out.below.size ?aL ?_
        (case aL => have := HOL.out; have := HPL.out; simp only [List.length_append, List.length_take, List.length_drop, List.length_singleton, List.length_cons, List.length_nil]; omega)
        intro vA25 wA25 ho hb hg hat
        replace HS := A0_ (hc_ _ _ _ ho hg)
        clear ho hb hg hat ho_ hf_ hc_ fp_
        obtain ⟨AA25, cA25, eA_⟩ := Sp.slice HS.out (i := 1) rfl
        subst eA_
        refine hK.out _ _ (⟨pw_cell_below HS.out.below HX0.out, pw_cell_below HS.out.below HX1.out, pw_cell_below HS.out.below HX2.out⟩) (fun hHeld => ?_)
        clear hK K
        refine nm_ (some 44) ?_
        refine on_ 15 (some 3) ?_
        refine dn_ ?_
        replace HS := A0_ (Sp.arr (pre := [Res.row kC 94 w.heap.size (.slice AA22 (([x] : List Cb)).length cA22) (([x] : List Cb)), Res.row kC 94 w.heap.size (.slice AA25 (((([] : List Cb) ++ out.take p) ++ [x]) ++ (out.drop p)).length cA25) (((([] : List Cb) ++ out.take p) ++ [x]) ++ (out.drop p)), Res.row kC 94 w.heap.size (.slice Ao (out).length co) (out)]) (pre' := [Res.row kC 94 w.heap.size (.slice AA25 (((([] : List Cb) ++ out.take p) ++ [x]) ++ (out.drop p)).length cA25) (((([] : List Cb) ++ out.take p) ++ [x]) ++ (out.drop p)), Res.row kC 94 w.heap.size (.slice AA22 (([x] : List Cb)).length cA22) (([x] : List Cb)), Res.row kC 94 w.heap.size (.slice Ao (out).length co) (out)]) (rest := ([] : List Res)) [1, 0, 2] HS.out rfl rfl)
        go_wp2
        go_roundg k1
        case measure => omega
        case rel =>
         rw [HW.out]
         refine ⟨i + 1, _, AA25, cA25, rfl, (by congr 1; have := HPL.out; simp only [List.length_append, List.length_take, List.length_drop, List.length_singleton, List.length_nil, List.length_cons]; omega), ⟨by have := HCI.out; omega, by have := HX.out; omega, ?_⟩, ⟨Sp.pick (rs' := [Res.row kC 94 w.heap.size (.slice AA25 (((([] : List Cb) ++ out.take p) ++ [x]) ++ out.drop p).length cA25) (((([] : List Cb) ++ out.take p) ++ [x]) ++ out.drop p)]) HS.out (fun j => j) (fun _ _ e => e) (fun j r h => by cases j with | zero => exact h | succ j => simp at h)⟩⟩
         have := HPL.out
         have := HX.out
         simp only [List.length_append, List.length_take, List.length_drop, List.length_singleton, List.length_nil, List.length_cons]
         omega
      ·refine Kd.R_lit_step kC _ 94 ?hg (N := 39) ?hd (xs := ([x] : List Cb)) (inner := [.int .i64 x.f0, .int .i64 x.f1, .int .i64 x.f2]) (ok := fun _ => True) (okp := fun _ => True) ?hr ?hp (fun _ hk => hk) trivial (Below.refl _ _) (Nat.le_refl _) (by simp) ?_
       (case hd => rfl)
       (case hg => rfl)
       (case hr => first | (go_simp; done) | (go_simp; rfl))
       (case hp => exact (Reps.c3 (show Kd.M kC _ _ _ x [.int .i64 x.f0, .int .i64 x.f1, .int .i64 x.f2] from k94_mkM _ _ _ x) (Reps.none _ _)))
       intro vA21 wA21 ho hb hg_ hnew_
       clear hg_ hnew_
       replace HS := A0_ (Sp.made' HS.out hb ho)
       clear hb ho
       obtain ⟨AA21, cA21, eA_⟩ := Sp.slice HS.out (i := 0) rfl
       subst eA_
       refine hK.out _ _ (⟨pw_cell_below HS.out.below HX0.out, pw_cell_below HS.out.below HX1.out, pw_cell_below HS.out.below HX2.out⟩) (fun hHeld => ?_)
       clear hK K
       refine nm_ (some 39) ?_
       refine o1_ 0 (some 30) (fun K hK => ?_)
       refine Kd.R_lit_step kC _ 94 ?hg (N := 30) ?hd (xs := ([] : List Cb)) (inner := []) (ok := fun _ => True) (okp := fun _ => True) ?hr ?hp (fun _ hk => hk) trivial (Below.refl _ _) (Nat.le_refl _) (by simp) ?_
       (case hd => rfl)
       (case hg => rfl)
       (case hr => first | (go_simp; done) | (go_simp; rfl))
       (case hp => exact (Reps.none _ _))
       intro vA22 wA22 ho hb hg_ hnew_
       clear hg_ hnew_
       replace HS := A0_ (Sp.made' HS.out hb ho)
       clear hb ho
       obtain ⟨AA22, cA22, eA_⟩ := Sp.slice HS.out (i := 0) rfl
       subst eA_
       refine hK.out _ _ (⟨pw_cell_below HS.out.below HX0.out, pw_cell_below HS.out.below HX1.out, pw_cell_below HS.out.below HX2.out⟩) (fun hHeld => ?_)
       clear hK K
       refine nm_ (some 30) ?_
       refine o1_ 4 (some 34) (fun K hK => ?_)
       obtain ⟨fp_, ho_, hf_, hc_⟩ := Sp.row HS.out (i := 0) rfl
       refine Kd.R_append_rows_step kC w.heap.size (by rfl) (.tmp 30) (.tmp 33) 35 94 (.agg #[(.int .i64 0), (.int .i64 0), (.int .i64 0)]) 24 rfl Try.underlying35 info94 rfl (by decide) (by omega) _ ([] : List Cb) (out.take p) _ _ _ _ (fun _ => False) rfl rfl ho_ (HCT.out _ (Sp.reads HS.out (i := 2) rfl).2.2) (fun _ _ h => h) (fun _ h => h.elim) (fun _ h => .inr h) HS.out.below HS.out.below.size ?aL ?_
       (case aL => have := HOL.out; have := HPL.out; simp only [List.length_append, List.length_take, List.length_drop, List.length_singleton, List.length_cons, List.length_nil]; omega)
       intro vA23 wA23 ho hb hg hat
       replace HS := A0_ (hc_ _ _ _ ho hg)
       clear ho hb hg hat ho_ hf_ hc_ fp_
       obtain ⟨AA23, cA23, eA_⟩ := Sp.slice HS.out (i := 0) rfl
       subst eA_
       refine hK.out _ _ (⟨pw_cell_below HS.out.below HX0.out, pw_cell_below HS.out.below HX1.out, pw_cell_below HS.out.below HX2.out⟩) (fun hHeld => ?_)
       clear hK K
       refine nm_ (some 34) ?_
       refine o1_ 10 (some 40) (fun K hK => ?_)
       obtain ⟨fp_, ho_, hf_, hc_⟩ := Sp.row HS.out (i := 0) rfl
       refine Kd.R_append_rows_step kC w.heap.size (by rfl) (.tmp 34) (.tmp 39) 35 94 (.agg #[(.int .i64 0), (.int .i64 0), (.int .i64 0)]) 24 rfl Try.underlying35 info94 rfl (by decide) (by omega) _ (([] : List Cb) ++ out.take p) [x] _ _ _ _ (fun _ => False) rfl rfl ho_ (Sp.reads HS.out (i := 1) rfl).2.2 (fun _ _ h => h) (fun _ h => h.elim) (fun _ h => .inr h) HS.out.below HS.out.below.size ?aL ?_
       (case aL => have := HOL.out; have := HPL.out; simp only [List.length_append, List.length_take, List.length_drop, List.length_singleton, List.length_cons, List.length_nil]; omega)
       intro vA24 wA24 ho hb hg hat
       replace HS := A0_ (hc_ _ _ _ ho hg)
       clear ho hb hg hat ho_ hf_ hc_ fp_
       obtain ⟨AA24, cA24, eA_⟩ := Sp.slice HS.out (i := 0) rfl
       subst eA_
       refine hK.out _ _ (⟨pw_cell_below HS.out.below HX0.out, pw_cell_below HS.out.below HX1.out, pw_cell_below HS.out.below HX2.out⟩) (fun hHeld => ?_)
       clear hK K
       refine nm_ (some 40) ?_
       refine o1_ 14 (some 44) (fun K hK => ?_)
       obtain ⟨fp_, ho_, hf_, hc_⟩ := Sp.row HS.out (i := 0) rfl
       refine Kd.R_append_rows_step kC w.heap.size (by rfl) (.tmp 40) (.tmp 43) 35 94 (.agg #[(.int .i64 0), (.int .i64 0), (.int .i64 0)]) 24 rfl Try.underlying35 info94 rfl (by decide) (by omega) _ ((([] : List Cb) ++ out.take p) ++ [x]) (out.drop p) _ _ _ _ (fun _ => False) rfl rfl ho_ (HCD.out _ (Sp.reads HS.out (i := 2) rfl).2.2) (fun _ _ h => h) (fun _ h => h.elim) (fun _ h => .inr h) HS.out.below HS.out.below.size ?aL ?_
       (case aL => have := HOL.out; have := HPL.out; simp only [List.length_append, List.length_take, List.length_drop, List.length_singleton, List.length_cons, List.length_nil]; omega)
       intro vA25 wA25 ho hb hg hat
       replace HS := A0_ (hc_ _ _ _ ho hg)
       clear ho hb hg hat ho_ hf_ hc_ fp_
       obtain ⟨AA25, cA25, eA_⟩ := Sp.slice HS.out (i := 0) rfl
       subst eA_
       refine hK.out _ _ (⟨pw_cell_below HS.out.below HX0.out, pw_cell_below HS.out.below HX1.out, pw_cell_below HS.out.below HX2.out⟩) (fun hHeld => ?_)
       clear hK K
       refine nm_ (some 44) ?_
       refine on_ 15 (some 3) ?_
       refine dn_ ?_
       go_wp2
       go_roundg k1
       case measure => omega
       case rel =>
        rw [HW.out]
        refine ⟨i + 1, _, AA25, cA25, rfl, (by congr 1; have := HPL.out; simp only [List.length_append, List.length_take, List.length_drop, List.length_singleton, List.length_nil, List.length_cons]; omega), ⟨by have := HCI.out; omega, by have := HX.out; omega, ?_⟩, ⟨Sp.pick (rs' := [Res.row kC 94 w.heap.size (.slice AA25 (((([] : List Cb) ++ out.take p) ++ [x]) ++ out.drop p).length cA25) (((([] : List Cb) ++ out.take p) ++ [x]) ++ out.drop p)]) HS.out (fun j => j) (fun _ _ e => e) (fun j r h => by cases j with | zero => exact h | succ j => simp at h)⟩⟩
        have := HPL.out
        have := HX.out
        simp only [List.length_append, List.length_take, List.length_drop, List.length_singleton, List.length_nil, List.length_cons]
        omega
    ·have cp0 : decide (p < out.length) = false := decide_eq_false cp
     have r1 : ((p : Int) < (out.length : Int)) = False := eq_false (by omega)
     have r2 : (p < out.length) = False := eq_false cp
     have HP := A0_ (show p ≤ out.length from HY.out.1)
     clear cp
     go_wp2
     replace HS := A0_ (Sp.drew HS.out)
     refine start_ (n := 15) (S := fun w' => True) (ds := []) #[false, false, false, false, false, false, false, false, false, false, false, false, false, false, false] (by kernel_rfl) rfl rfl (trivial) (fun hHeld => ?_)
     refine with_tabW srtF.tab6 srtF.bits6 (fun HT_ HW_ => ?_)
     generalize wr.drew = wD at HS hHeld ⊢
     refine on_ 0 (some 13) ?_
     refine on_ 1 (some 14) ?_
     refine on_ 2 (some 15) ?_
     refine on_ 3 (some 16) ?_
     refine on_ 4 (some 17) ?_
     refine of_ 5 (some 18) ?_
     refine of_ 6 (some 19) ?_
     refine of_ 7 (some 20) ?_
     refine of_ 8 (some 21) ?_
     refine of_ 9 (some 22) ?_
     refine of_ 10 (some 23) ?_
     refine of_ 11 (some 24) ?_
     refine of_ 12 (some 25) ?_
     refine of_ 13 (some 26) ?_
     refine on_ 14 (some 27) ?_
     refine dn_ ?_
     go_wp2
     have HPL := A0_ HP.out
     obtain ⟨Ad, hAd⟩ : ∃ Ad, Ad = (if co = p then Ao else Ao.map (·.add (p * 3))) := ⟨_, rfl⟩
     have hcap := (Sp.reads HS.out (i := 0) rfl).2.1
     have HCD := A0_ (fun (w1 : World) (h : kC.C w1 Ao out.length out) => (show kC.C w1 Ad (out.length - p) (out.drop p) from by have h1 := Kd.C_drop h HPL.out hcap; rw [List.length_drop] at h1; rw [hAd]; exact h1))
     have HCT := A0_ (fun (w1 : World) (h : kC.C w1 Ao out.length out) => (show kC.C w1 Ao p (out.take p) from by have h1 := Kd.C_take h HPL.out; rw [List.length_take, Nat.min_eq_left HPL.out] at h1; exact h1))
     have hpc : (p ≤ co) = True := eq_true (Nat.le_trans HPL.out hcap)
     have hpl : (p ≤ out.length) = True := eq_true HPL.out
     have hAd1 : (if co = p then Ao else Option.map (fun x => x.add (p * 3)) Ao) = Ad := by rw [hAd]
     clear hAd hcap
     replace HS := A0_ (Sp.drew HS.out)
     refine start_ (n := 16) (S := fun w' => w'.cell? (adl.add (i * 3)) = some (.int .i64 x.f0) ∧ w'.cell? ⟨(adl.add (i * 3)).block, (adl.add (i * 3)).off + 1, none⟩ = some (.int .i64 x.f1) ∧ w'.cell? ⟨(adl.add (i * 3)).block, (adl.add (i * 3)).off + 2, none⟩ = some (.int .i64 x.f2)) (ds := []) #[false, false, false, false, false, false, false, false, false, false, false, false, false, false, false, false] (by kernel_rfl) rfl rfl (⟨pw_cell_below HS.out.below HX0.out, pw_cell_below HS.out.below HX1.out, pw_cell_below HS.out.below HX2.out⟩) (fun hHeld => ?_)
     refine with_tabW srtF.tab8 srtF.bits8 (fun HT_ HW_ => ?_)
     generalize wD.drew = wE at HS hHeld ⊢
     refine on_ 1 (some 31) ?_
     refine on_ 2 (some 32) ?_
     refine on_ 3 (some 33) ?_
     refine on_ 5 (some 35) ?_
     refine on_ 6 (some 36) ?_
     refine on_ 7 (some 37) ?_
     refine tk_ 8 (some 38) ?_
     refine on_ 11 (some 41) ?_
     refine on_ 12 (some 42) ?_
     refine on_ 13 (some 43) ?_
     refine o2_ 0 9 (some 30) (some 39) (fun K hK => ?_) (fun K hK => ?_)
     ·refine Kd.R_lit_step kC _ 94 ?hg (N := 30) ?hd (xs := ([] : List Cb)) (inner := []) (ok := fun _ => True) (okp := fun _ => True) ?hr ?hp (fun _ hk => hk) trivial (Below.refl _ _) (Nat.le_refl _) (by simp) ?_
      (case hd => rfl)
      (case hg => rfl)
      (case hr => first | (go_simp; done) | (go_simp; rfl))
      (case hp => exact (Reps.none _ _))
      intro vA21 wA21 ho hb hg_ hnew_
      clear hg_ hnew_
      replace HS := A0_ (Sp.made' HS.out hb ho)
      clear hb ho
      obtain ⟨AA21, cA21, eA_⟩ := Sp.slice HS.out (i := 0) rfl
      subst eA_
      refine hK.out _ _ (⟨pw_cell_below HS.out.below HX0.out, pw_cell_below HS.out.below HX1.out, pw_cell_below HS.out.below HX2.out⟩) (fun hHeld => ?_)
      clear hK K
      refine nm_ (some 30) ?_
      refine o2_ 4 9 (some 34) (some 39) (fun K hK => ?_) (fun K hK => ?_)
      ·obtain ⟨fp_, ho_, hf_, hc_⟩ := Sp.row HS.out (i := 0) rfl
       refine Kd.R_append_rows_step kC w.heap.size (by rfl) (.tmp 30) (.tmp 33) 35 94 (.agg #[(.int .i64 0), (.int .i64 0), (.int .i64 0)]) 24 rfl Try.underlying35 info94 rfl (by decide) (by omega) _ ([] : List Cb) (out.take p) _ _ _ _ (fun _ => False) rfl rfl ho_ (HCT.out _ (Sp.reads HS.out (i := 1) rfl).2.2) (fun _ _ h => h) (fun _ h => h.elim) (fun _ h => .inr h) HS.out.below HS.out.below.size ?aL ?_
       (case aL => have := HOL.out; have := HPL.out; simp only [List.length_append, List.length_take, List.length_drop, List.length_singleton, List.length_cons, List.length_nil]; omega)
       intro vA22 wA22 ho hb hg hat
       replace HS := A0_ (hc_ _ _ _ ho hg)
       clear ho hb hg hat ho_ hf_ hc_ fp_
       obtain ⟨AA22, cA22, eA_⟩ := Sp.slice HS.out (i := 0) rfl
       subst eA_
       refine hK.out _ _ (⟨pw_cell_below HS.out.below HX0.out, pw_cell_below HS.out.below HX1.out, pw_cell_below HS.out.below HX2.out⟩) (fun hHeld => ?_)
       clear hK K
       refine nm_ (some 34) ?_
       refine o1_ 9 (some 39) (fun K hK => ?_)
       refine Kd.R_lit_step kC _ 94 ?hg (N := 39) ?hd (xs := ([x] : List Cb)) (inner := [.int .i64 x.f0, .int .i64 x.f1, .int .i64 x.f2]) (ok := fun _ => True) (okp := fun _ => True) ?hr ?hp (fun _ hk => hk) trivial (Below.refl _ _) (Nat.le_refl _) (by simp) ?_
       (case hd => rfl)
       (case hg => rfl)
       (case hr => first | (go_simp; done) | (go_simp; rfl))
       (case hp => exact (Reps.c3 (show Kd.M kC _ _ _ x [.int .i64 x.f0, .int .i64 x.f1, .int .i64 x.f2] from k94_mkM _ _ _ x) (Reps.none _ _)))
       intro vA23 wA23 ho hb hg_ hnew_
       clear hg_ hnew_
       replace HS := A0_ (Sp.made' HS.out hb ho)
       clear hb ho
       obtain ⟨AA23, cA23, eA_⟩ := Sp.slice HS.out (i := 0) rfl
       subst eA_
       refine hK.out _ _ (⟨pw_cell_below HS.out.below HX0.out, pw_cell_below HS.out.below HX1.out, pw_cell_below HS.out.below HX2.out⟩) (fun hHeld => ?_)
       clear hK K
       refine nm_ (some 39) ?_
       refine o1_ 10 (some 40) (fun K hK => ?_)
       obtain ⟨fp_, ho_, hf_, hc_⟩ := Sp.row HS.out (i := 1) rfl
       refine Kd.R_append_rows_step kC w.heap.size (by rfl) (.tmp 34) (.tmp 39) 35 94 (.agg #[(.int .i64 0), (.int .i64 0), (.int .i64 0)]) 24 rfl Try.underlying35 info94 rfl (by decide) (by omega) _ (([] : List Cb) ++ out.take p) [x] _ _ _ _ (fun _ => False) rfl rfl ho_ (Sp.reads HS.out (i := 0) rfl).2.2 (fun _ _ h => h) (fun _ h => h.elim) (fun _ h => .inr h) HS.out.below HS.out.below.size ?aL ?_
       (case aL => have := HOL.out; have := HPL.out; simp only [List.length_append, List.length_take, List.length_drop, List.length_singleton, List.length_cons, List.length_nil]; omega)
       intro vA24 wA24 ho hb hg hat
       replace HS := A0_ (hc_ _ _ _ ho hg)
       clear ho hb hg hat ho_ hf_ hc_ fp_
       obtain ⟨AA24, cA24, eA_⟩ := Sp.slice HS.out (i := 1) rfl
       subst eA_
       refine hK.out _ _ (⟨pw_cell_below HS.out.below HX0.out, pw_cell_below HS.out.below HX1.out, pw_cell_below HS.out.below HX2.out⟩) (fun hHeld => ?_)
       clear hK K
       refine nm_ (some 40) ?_
       refine o1_ 14 (some 44) (fun K hK => ?_)
       obtain ⟨fp_, ho_, hf_, hc_⟩ := Sp.row HS.out (i := 1) rfl
       refine Kd.R_append_rows_step kC w.heap.size (by rfl) (.tmp 40) (.tmp 43) 35 94 (.agg #[(.int .i64 0), (.int .i64 0), (.int .i64 0)]) 24 rfl Try.underlying35 info94 rfl (by decide) (by omega) _ ((([] : List Cb) ++ out.take p) ++ [x]) (out.drop p) _ _ _ _ (fun _ => False) rfl rfl ho_ (HCD.out _ (Sp.reads HS.out (i := 2) rfl).2.2) (fun _ _ h => h) (fun _ h => h.elim) (fun _ h => .inr h) HS.out.below HS.out.below.size ?aL ?_
       (case aL => have := HOL.out; have := HPL.out; simp only [List.length_append, List.length_take, List.length_drop, List.length_singleton, List.length_cons, List.length_nil]; omega)
       intro vA25 wA25 ho hb hg hat
       replace HS := A0_ (hc_ _ _ _ ho hg)
       clear ho hb hg hat ho_ hf_ hc_ fp_
       obtain ⟨AA25, cA25, eA_⟩ := Sp.slice HS.out (i := 1) rfl
       subst eA_
       refine hK.out _ _ (⟨pw_cell_below HS.out.below HX0.out, pw_cell_below HS.out.below HX1.out, pw_cell_below HS.out.below HX2.out⟩) (fun hHeld => ?_)
       clear hK K
       refine nm_ (some 44) ?_
       refine on_ 15 (some 3) ?_
       refine dn_ ?_
       replace HS := A0_ (Sp.arr (pre := [Res.row kC 94 w.heap.size (.slice AA23 (([x] : List Cb)).length cA23) (([x] : List Cb)), Res.row kC 94 w.heap.size (.slice AA25 (((([] : List Cb) ++ out.take p) ++ [x]) ++ (out.drop p)).length cA25) (((([] : List Cb) ++ out.take p) ++ [x]) ++ (out.drop p)), Res.row kC 94 w.heap.size (.slice Ao (out).length co) (out)]) (pre' := [Res.row kC 94 w.heap.size (.slice AA25 (((([] : List Cb) ++ out.take p) ++ [x]) ++ (out.drop p)).length cA25) (((([] : List Cb) ++ out.take p) ++ [x]) ++ (out.drop p)), Res.row kC 94 w.heap.size (.slice AA23 (([x] : List Cb)).length cA23) (([x] : List Cb)), Res.row kC 94 w.heap.size (.slice Ao (out).length co) (out)]) (rest := ([] : List Res)) [1, 0, 2] HS.out rfl rfl)
       go_wp2
       go_roundg k1
       case measure => omega
       case rel =>
        rw [HW.out]
        refine ⟨i + 1, _, AA25, cA25, rfl, (by congr 1; have := HPL.out; simp only [List.length_append, List.length_take, List.length_drop, List.length_singleton, List.length_nil, List.length_cons]; omega), ⟨by have := HCI.out; omega, by have := HX.out; omega, ?_⟩, ⟨Sp.pick (rs' := [Res.row kC 94 w.heap.size (.slice AA25 (((([] : List Cb) ++ out.take p) ++ [x]) ++ out.drop p).length cA25) (((([] : List Cb) ++ out.take p) ++ [x]) ++ out.drop p)]) HS.out (fun j => j) (fun _ _ e => e) (fun j r h => by cases j with | zero => exact h | succ j => simp at h)⟩⟩
        have := HPL.out
        have := HX.out
        simp only [List.length_append, List.length_take, List.length_drop, List.length_singleton, List.length_nil, List.length_cons]
        omega
      ·refine Kd.R_lit_step kC _ 94 ?hg (N := 39) ?hd (xs := ([x] : List Cb)) (inner := [.int .i64 x.f0, .int .i64 x.f1, .int .i64 x.f2]) (ok := fun _ => True) (okp := fun _ => True) ?hr ?hp (fun _ hk => hk) trivial (Below.refl _ _) (Nat.le_refl _) (by simp) ?_
       (case hd => rfl)
       (case hg => rfl)
       (case hr => first | (go_simp; done) | (go_simp; rfl))
       (case hp => exact (Reps.c3 (show Kd.M kC _ _ _ x [.int .i64 x.f0, .int .i64 x.f1, .int .i64 x.f2] from k94_mkM _ _ _ x) (Reps.none _ _)))
       intro vA22 wA22 ho hb hg_ hnew_
       clear hg_ hnew_
       replace HS := A0_ (Sp.made' HS.out hb ho)
       clear hb ho
       obtain ⟨AA22, cA22, eA_⟩ := Sp.slice HS.out (i := 0) rfl
       subst eA_
       refine hK.out _ _ (⟨pw_cell_below HS.out.below HX0.out, pw_cell_below HS.out.below HX1.out, pw_cell_below HS.out.below HX2.out⟩) (fun hHeld => ?_)
       clear hK K
       refine nm_ (some 39) ?_
       refine o1_ 4 (some 34) (fun K hK => ?_)
       obtain ⟨fp_, ho_, hf_, hc_⟩ := Sp.row HS.out (i := 1) rfl
       refine Kd.R_append_rows_step kC w.heap.size (by rfl) (.tmp 30) (.tmp 33) 35 94 (.agg #[(.int .i64 0), (.int .i64 0), (.int .i64 0)]) 24 rfl Try.underlying35 info94 rfl (by decide) (by omega) _ ([] : List Cb) (out.take p) _ _ _ _ (fun _ => False) rfl rfl ho_ (HCT.out _ (Sp.reads HS.out (i := 2) rfl).2.2) (fun _ _ h => h) (fun _ h => h.elim) (fun _ h => .inr h) HS.out.below HS.out.below.size ?aL ?_
       (case aL => have := HOL.out; have := HPL.out; simp only [List.length_append, List.length_take, List.length_drop, List.length_singleton, List.length_cons, List.length_nil]; omega)
       intro vA23 wA23 ho hb hg hat
       replace HS := A0_ (hc_ _ _ _ ho hg)
       clear ho hb hg hat ho_ hf_ hc_ fp_
       obtain ⟨AA23, cA23, eA_⟩ := Sp.slice HS.out (i := 1) rfl
       subst eA_
       refine hK.out _ _ (⟨pw_cell_below HS.out.below HX0.out, pw_cell_below HS.out.below HX1.out, pw_cell_below HS.out.below HX2.out⟩) (fun hHeld => ?_)
       clear hK K
       refine nm_ (some 34) ?_
       refine o1_ 10 (some 40) (fun K hK => ?_)
       obtain ⟨fp_, ho_, hf_, hc_⟩ := Sp.row HS.out (i := 1) rfl
       refine Kd.R_append_rows_step kC w.heap.size (by rfl) (.tmp 34) (.tmp 39) 35 94 (.agg #[(.int .i64 0), (.int .i64 0), (.int .i64 0)]) 24 rfl Try.underlying35 info94 rfl (by decide) (by omega) _ (([] : List Cb) ++ out.take p) [x] _ _ _ _ (fun _ => False) rfl rfl ho_ (Sp.reads HS.out (i := 0) rfl).2.2 (fun _ _ h => h) (fun _ h => h.elim) (fun _ h => .inr h) HS.out.below HS.out.below.size ?aL ?_
       (case aL => have := HOL.out; have := HPL.out; simp only [List.length_append, List.length_take, List.length_drop, List.length_singleton, List.length_cons, List.length_nil]; omega)
       intro vA24 wA24 ho hb hg hat
       replace HS := A0_ (hc_ _ _ _ ho hg)
       clear ho hb hg hat ho_ hf_ hc_ fp_
       obtain ⟨AA24, cA24, eA_⟩ := Sp.slice HS.out (i := 1) rfl
       subst eA_
       refine hK.out _ _ (⟨pw_cell_below HS.out.below HX0.out, pw_cell_below HS.out.below HX1.out, pw_cell_below HS.out.below HX2.out⟩) (fun hHeld => ?_)
       clear hK K
       refine nm_ (some 40) ?_
       refine o1_ 14 (some 44) (fun K hK => ?_)
       obtain ⟨fp_, ho_, hf_, hc_⟩ := Sp.row HS.out (i := 1) rfl
       refine Kd.R_append_rows_step kC w.heap.size (by rfl) (.tmp 40) (.tmp 43) 35 94 (.agg #[(.int .i64 0), (.int .i64 0), (.int .i64 0)]) 24 rfl Try.underlying35 info94 rfl (by decide) (by omega) _ ((([] : List Cb) ++ out.take p) ++ [x]) (out.drop p) _ _ _ _ (fun _ => False) rfl rfl ho_ (HCD.out _ (Sp.reads HS.out (i := 2) rfl).2.2) (fun _ _ h => h) (fun _ h => h.elim) (fun _ h => .inr h) HS.out.below HS.out.below.size ?aL ?_
       (case aL => have := HOL.out; have := HPL.out; simp only [List.length_append, List.length_take, List.length_drop, List.length_singleton, List.length_cons, List.length_nil]; omega)
       intro vA25 wA25 ho hb hg hat
       replace HS := A0_ (hc_ _ _ _ ho hg)
       clear ho hb hg hat ho_ hf_ hc_ fp_
       obtain ⟨AA25, cA25, eA_⟩ := Sp.slice HS.out (i := 1) rfl
       subst eA_
       refine hK.out _ _ (⟨pw_cell_below HS.out.below HX0.out, pw_cell_below HS.out.below HX1.out, pw_cell_below HS.out.below HX2.out⟩) (fun hHeld => ?_)
       clear hK K
       refine nm_ (some 44) ?_
       refine on_ 15 (some 3) ?_
       refine dn_ ?_
       replace HS := A0_ (Sp.arr (pre := [Res.row kC 94 w.heap.size (.slice AA22 (([x] : List Cb)).length cA22) (([x] : List Cb)), Res.row kC 94 w.heap.size (.slice AA25 (((([] : List Cb) ++ out.take p) ++ [x]) ++ (out.drop p)).length cA25) (((([] : List Cb) ++ out.take p) ++ [x]) ++ (out.drop p)), Res.row kC 94 w.heap.size (.slice Ao (out).length co) (out)]) (pre' := [Res.row kC 94 w.heap.size (.slice AA25 (((([] : List Cb) ++ out.take p) ++ [x]) ++ (out.drop p)).length cA25) (((([] : List Cb) ++ out.take p) ++ [x]) ++ (out.drop p)), Res.row kC 94 w.heap.size (.slice AA22 (([x] : List Cb)).length cA22) (([x] : List Cb)), Res.row kC 94 w.heap.size (.slice Ao (out).length co) (out)]) (rest := ([] : List Res)) [1, 0, 2] HS.out rfl rfl)
       go_wp2
       go_roundg k1
       case measure => omega
       case rel =>
        rw [HW.out]
        refine ⟨i + 1, _, AA25, cA25, rfl, (by congr 1; have := HPL.out; simp only [List.length_append, List.length_take, List.length_drop, List.length_singleton, List.length_nil, List.length_cons]; omega), ⟨by have := HCI.out; omega, by have := HX.out; omega, ?_⟩, ⟨Sp.pick (rs' := [Res.row kC 94 w.heap.size (.slice AA25 (((([] : List Cb) ++ out.take p) ++ [x]) ++ out.drop p).length cA25) (((([] : List Cb) ++ out.take p) ++ [x]) ++ out.drop p)]) HS.out (fun j => j) (fun _ _ e => e) (fun j r h => by cases j with | zero => exact h | succ j => simp at h)⟩⟩
        have := HPL.out
        have := HX.out
        simp only [List.length_append, List.length_take, List.length_drop, List.length_singleton, List.length_nil, List.length_cons]
        omega
     ·refine Kd.R_lit_step kC _ 94 ?hg (N := 39) ?hd (xs := ([x] : List Cb)) (inner := [.int .i64 x.f0, .int .i64 x.f1, .int .i64 x.f2]) (ok := fun _ => True) (okp := fun _ => True) ?hr ?hp (fun _ hk => hk) trivial (Below.refl _ _) (Nat.le_refl _) (by simp) ?_
      (case hd => rfl)
      (case hg => rfl)
      (case hr => first | (go_simp; done) | (go_simp; rfl))
      (case hp => exact (Reps.c3 (show Kd.M kC _ _ _ x [.int .i64 x.f0, .int .i64 x.f1, .int .i64 x.f2] from k94_mkM _ _ _ x) (Reps.none _ _)))
      intro vA21 wA21 ho hb hg_ hnew_
      clear hg_ hnew_
      replace HS := A0_ (Sp.made' HS.out hb ho)
      clear hb ho
      obtain ⟨AA21, cA21, eA_⟩ := Sp.slice HS.out (i := 0) rfl
      subst eA_
      refine hK.out _ _ (⟨pw_cell_below HS.out.below HX0.out, pw_cell_below HS.out.below HX1.out, pw_cell_below HS.out.below HX2.out⟩) (fun hHeld => ?_)
      clear hK K
      refine nm_ (some 39) ?_
      refine o1_ 0 (some 30) (fun K hK => ?_)
      refine Kd.R_lit_step kC _ 94 ?hg (N := 30) ?hd (xs := ([] : List Cb)) (inner := []) (ok := fun _ => True) (okp := fun _ => True) ?hr ?hp (fun _ hk => hk) trivial (Below.refl _ _) (Nat.le_refl _) (by simp) ?_
      (case hd => rfl)
      (case hg => rfl)
      (case hr => first | (go_simp; done) | (go_simp; rfl))
      (case hp => exact (Reps.none _ _))
      intro vA22 wA22 ho hb hg_ hnew_
      clear hg_ hnew_
      replace HS := A0_ (Sp.made' HS.out hb ho)
      clear hb ho
      obtain ⟨AA22, cA22, eA_⟩ := Sp.slice HS.out (i := 0) rfl
      subst eA_
      refine hK.out _ _ (⟨pw_cell_below HS.out.below HX0.out, pw_cell_below HS.out.below HX1.out, pw_cell_below HS.out.below HX2.out⟩) (fun hHeld => ?_)
      clear hK K
      refine nm_ (some 30) ?_
      refine o1_ 4 (some 34) (fun K hK => ?_)
      obtain ⟨fp_, ho_, hf_, hc_⟩ := Sp.row HS.out (i := 0) rfl
      refine Kd.R_append_rows_step kC w.heap.size (by rfl) (.tmp 30) (.tmp 33) 35 94 (.agg #[(.int .i64 0), (.int .i64 0), (.int .i64 0)]) 24 rfl Try.underlying35 info94 rfl (by decide) (by omega) _ ([] : List Cb) (out.take p) _ _ _ _ (fun _ => False) rfl rfl ho_ (HCT.out _ (Sp.reads HS.out (i := 2) rfl).2.2) (fun _ _ h => h) (fun _ h => h.elim) (fun _ h => .inr h) HS.out.below HS.out.below.size ?aL ?_
      (case aL => have := HOL.out; have := HPL.out; simp only [List.length_append, List.length_take, List.length_drop, List.length_singleton, List.length_cons, List.length_nil]; omega)
      intro vA23 wA23 ho hb hg hat
      replace HS := A0_ (hc_ _ _ _ ho hg)
      clear ho hb hg hat ho_ hf_ hc_ fp_
      obtain ⟨AA23, cA23, eA_⟩ := Sp.slice HS.out (i := 0) rfl
      subst eA_
      refine hK.out _ _ (⟨pw_cell_below HS.out.below HX0.out, pw_cell_below HS.out.below HX1.out, pw_cell_below HS.out.below HX2.out⟩) (fun hHeld => ?_)
      clear hK K
      refine nm_ (some 34) ?_
      refine o1_ 10 (some 40) (fun K hK => ?_)
      obtain ⟨fp_, ho_, hf_, hc_⟩ := Sp.row HS.out (i := 0) rfl
      refine Kd.R_append_rows_step kC w.heap.size (by rfl) (.tmp 34) (.tmp 39) 35 94 (.agg #[(.int .i64 0), (.int .i64 0), (.int .i64 0)]) 24 rfl Try.underlying35 info94 rfl (by decide) (by omega) _ (([] : List Cb) ++ out.take p) [x] _ _ _ _ (fun _ => False) rfl rfl ho_ (Sp.reads HS.out (i := 1) rfl).2.2 (fun _ _ h => h) (fun _ h => h.elim) (fun _ h => .inr h) HS.out.below HS.out.below.size ?aL ?_
      (case aL => have := HOL.out; have := HPL.out; simp only [List.length_append, List.length_take, List.length_drop, List.length_singleton, List.length_cons, List.length_nil]; omega)
      intro vA24 wA24 ho hb hg hat
      replace HS := A0_ (hc_ _ _ _ ho hg)
      clear ho hb hg hat ho_ hf_ hc_ fp_
      obtain ⟨AA24, cA24, eA_⟩ := Sp.slice HS.out (i := 0) rfl
      subst eA_
      refine hK.out _ _ (⟨pw_cell_below HS.out.below HX0.out, pw_cell_below HS.out.below HX1.out, pw_cell_below HS.out.below HX2.out⟩) (fun hHeld => ?_)
      clear hK K
      refine nm_ (some 40) ?_
      refine o1_ 14 (some 44) (fun K hK => ?_)
      obtain ⟨fp_, ho_, hf_, hc_⟩ := Sp.row HS.out (i := 0) rfl
      refine Kd.R_append_rows_step kC w.heap.size (by rfl) (.tmp 40) (.tmp 43) 35 94 (.agg #[(.int .i64 0), (.int .i64 0), (.int .i64 0)]) 24 rfl Try.underlying35 info94 rfl (by decide) (by omega) _ ((([] : List Cb) ++ out.take p) ++ [x]) (out.drop p) _ _ _ _ (fun _ => False) rfl rfl ho_ (HCD.out _ (Sp.reads HS.out (i := 2) rfl).2.2) (fun _ _ h => h) (fun _ h => h.elim) (fun _ h => .inr h) HS.out.below HS.out.below.size ?aL ?_
      (case aL => have := HOL.out; have := HPL.out; simp only [List.length_append, List.length_take, List.length_drop, List.length_singleton, List.length_cons, List.length_nil]; omega)
      intro vA25 wA25 ho hb hg hat
      replace HS := A0_ (hc_ _ _ _ ho hg)
      clear ho hb hg hat ho_ hf_ hc_ fp_
      obtain ⟨AA25, cA25, eA_⟩ := Sp.slice HS.out (i := 0) rfl
      subst eA_
      refine hK.out _ _ (⟨pw_cell_below HS.out.below HX0.out, pw_cell_below HS.out.below HX1.out, pw_cell_below HS.out.below HX2.out⟩) (fun hHeld => ?_)
      clear hK K
      refine nm_ (some 44) ?_
      refine on_ 15 (some 3) ?_
      refine dn_ ?_
      go_wp2
      go_roundg k1
      case measure => omega
      case rel =>
       rw [HW.out]
       refine ⟨i + 1, _, AA25, cA25, rfl, (by congr 1; have := HPL.out; simp only [List.length_append, List.length_take, List.length_drop, List.length_singleton, List.length_nil, List.length_cons]; omega), ⟨by have := HCI.out; omega, by have := HX.out; omega, ?_⟩, ⟨Sp.pick (rs' := [Res.row kC 94 w.heap.size (.slice AA25 (((([] : List Cb) ++ out.take p) ++ [x]) ++ out.drop p).length cA25) (((([] : List Cb) ++ out.take p) ++ [x]) ++ out.drop p)]) HS.out (fun j => j) (fun _ _ e => e) (fun j r h => by cases j with | zero => exact h | succ j => simp at h)⟩⟩
       have := HPL.out
       have := HX.out
       simp only [List.length_append, List.length_take, List.length_drop, List.length_singleton, List.length_nil, List.length_cons]
       omega
  ·have ci0 : decide (i < xs.length) = false := decide_eq_false ci
   have q1 : ((i : Int) < (xs.length : Int)) = False := eq_false (by omega)
   have q2 : (i < xs.length) = False := eq_false ci
   have HE := A0_ (show out.length = xs.length by have := HX.out; omega)
   clear ci
   go_wp2
   go_ret
   obtain ⟨fp_, hp_, _⟩ := Sp.get HS.out (i := 0) rfl
   exact ⟨_, out, rfl, HE.out, Kd.R_mono hp_ (fun _ _ => trivial), HS.out.below⟩
theorem inCb_iff (c : Cb) (lo hi : Int) : inCb c lo hi = true ↔ (lo ≤ c.f0 ∧ c.f0 ≤ hi) ∧ (lo ≤ c.f1 ∧ c.f1 ≤ hi) ∧ (lo ≤ c.f2 ∧ c.f2 ≤ hi) := by
 unfold inCb inR
 simp only [Bool.and_eq_true, decide_eq_true_eq]
theorem addC_small {a b : Cb} (ha : inCb a (-200) 200 = true) (hb : inCb b (-200) 200 = true) : addC a b = ⟨a.f0 + b.f0, a.f1 + b.f1, a.f2 + b.f2⟩ := by
 rw [inCb_iff] at ha hb
 unfold addC
 rw [wrap_id (by omega) (by omega), wrap_id (by omega) (by omega), wrap_id (by omega) (by omega)]
theorem subC_small {a b : Cb} (ha : inCb a (-200) 200 = true) (hb : inCb b (-200) 200 = true) : subC a b = ⟨a.f0 - b.f0, a.f1 - b.f1, a.f2 - b.f2⟩ := by
 rw [inCb_iff] at ha hb
 unfold subC
 rw [wrap_id (by omega) (by omega), wrap_id (by omega) (by omega), wrap_id (by omega) (by omega)]
theorem inCb_mono {c : Cb} {lo hi lo' hi' : Int} (h : inCb c lo hi = true) (h1 : lo' ≤ lo) (h2 : hi ≤ hi') : inCb c lo' hi' = true := by
 rw [inCb_iff] at h ⊢
 omega
theorem pair_wide (Pi Pj : List Cb) (oi oj : Cb) (hi : ∀ c ∈ Pi, inCb c 0 7 = true) (hj : ∀ c ∈ Pj, inCb c 0 7 = true) (h1 : inCb oi (-60) 60 = true) (h2 : inCb oj (-60) 60 = true) :
  ((Pi.map fun c => addC c oi).any fun c => (Pj.map fun c => addC c oj).contains c) = (inCb (subC oi oj) (-7) 7 && meets Pj Pi (subC oi oj)) := by
 have b1 := inCb_mono h1 (show (-200 : Int) ≤ -60 by omega) (show (60 : Int) ≤ 200 by omega)
 have b2 := inCb_mono h2 (show (-200 : Int) ≤ -60 by omega) (show (60 : Int) ≤ 200 by omega)
 have hd := subC_small b1 b2
 have hdb : inCb (subC oi oj) (-200) 200 = true := by
  rw [hd, inCb_iff]
  rw [inCb_iff] at h1 h2
  dsimp only
  omega
 rw [Bool.eq_iff_iff, Bool.and_eq_true, List.any_eq_true]
 unfold meets
 rw [List.any_eq_true]
 constructor
 ·rintro ⟨x, hx, hc⟩
  rw [List.mem_map] at hx
  obtain ⟨c, hcm, rfl⟩ := hx
  rw [List.contains_iff_mem, List.mem_map] at hc
  obtain ⟨c', hcm', e⟩ := hc
  have g1 := hi c hcm
  have g2 := hj c' hcm'
  have s1 := inCb_mono g1 (show (-200 : Int) ≤ 0 by omega) (show (7 : Int) ≤ 200 by omega)
  have s2 := inCb_mono g2 (show (-200 : Int) ≤ 0 by omega) (show (7 : Int) ≤ 200 by omega)
  rw [addC_small s2 b2, addC_small s1 b1] at e
  have e0 : c'.f0 + oj.f0 = c.f0 + oi.f0 := congrArg S94.f0 e
  have e1 : c'.f1 + oj.f1 = c.f1 + oi.f1 := congrArg S94.f1 e
  have e2 : c'.f2 + oj.f2 = c.f2 + oi.f2 := congrArg S94.f2 e
  rw [inCb_iff] at g1 g2
  refine ⟨?_, c, hcm, ?_⟩
  ·rw [hd, inCb_iff]
   dsimp only
   omega
  ·rw [List.contains_iff_mem, addC_small s1 hdb, hd]
   have : (⟨c.f0 + (oi.f0 - oj.f0), c.f1 + (oi.f1 - oj.f1), c.f2 + (oi.f2 - oj.f2)⟩ : Cb) = c' := by
    rcases c' with ⟨a0, a1, a2⟩
    dsimp only at e0 e1 e2
    rw [show c.f0 + (oi.f0 - oj.f0) = a0 by omega, show c.f1 + (oi.f1 - oj.f1) = a1 by omega, show c.f2 + (oi.f2 - oj.f2) = a2 by omega]
   dsimp only
   rw [this]
   exact hcm'
 ·rintro ⟨_, c, hcm, hc⟩
  rw [List.contains_iff_mem] at hc
  have g1 := hi c hcm
  have s1 := inCb_mono g1 (show (-200 : Int) ≤ 0 by omega) (show (7 : Int) ≤ 200 by omega)
  have g2 := hj _ hc
  have s2 := inCb_mono g2 (show (-200 : Int) ≤ 0 by omega) (show (7 : Int) ≤ 200 by omega)
  refine ⟨_, List.mem_map.2 ⟨c, hcm, rfl⟩, ?_⟩
  rw [List.contains_iff_mem, List.mem_map]
  refine ⟨_, hc, ?_⟩
  rw [addC_small s2 b2, addC_small s1 hdb, addC_small s1 b1, hd]
  dsimp only
  rw [show c.f0 + (oi.f0 - oj.f0) + oj.f0 = c.f0 + oi.f0 by omega, show c.f1 + (oi.f1 - oj.f1) + oj.f1 = c.f1 + oi.f1 by omega, show c.f2 + (oi.f2 - oj.f2) + oj.f2 = c.f2 + oi.f2 by omega]
theorem pair_same (Pi Pj : List Cb) (oi oj : Cb) (hi : ∀ c ∈ Pi, inCb c 0 7 = true) (hj : ∀ c ∈ Pj, inCb c 0 7 = true) (h1 : inCb oi (-12) 12 = true) (h2 : inCb oj (-12) 12 = true) :
  ((Pi.map fun c => addC c oi).any fun c => (Pj.map fun c => addC c oj).contains c) = (inCb (subC oi oj) (-7) 7 && meets Pj Pi (subC oi oj)) :=
 pair_wide Pi Pj oi oj hi hj (inCb_mono h1 (by omega) (by omega)) (inCb_mono h2 (by omega) (by omega))
def pairT (parts : List (List Cb)) (offs : List Cb) (i j : Nat) : Bool := touchP parts j i (subC (oAt offs i) (oAt offs j))
theorem alone_eq (parts : List (List Cb)) (offs : List Cb) (i : Nat) (hi : i ≤ offs.length) : aloneP parts (offs.take i) i (oAt offs i) = (List.range i).all (fun j => !pairT parts offs i j) := by
 unfold aloneP pairT
 rw [show (offs.take i).length = i by rw [List.length_take]; omega]
 rw [Bool.eq_iff_iff, List.all_eq_true, List.all_eq_true]
 have g : ∀ j, j < i → (offs.take i).getD j ⟨0, 0, 0⟩ = oAt offs j := fun j hj => by
  simp [oAt, List.getD_eq_getElem?_getD, List.getElem?_take, hj]
 constructor
 ·intro h j hj
  have h2 := h j hj
  have hlt := List.mem_range.1 hj
  rw [g j hlt, decide_eq_false (show ¬ (j : Int) = (i : Int) by omega), Bool.false_or] at h2
  exact h2
 ·intro h j hj
  have h2 := h j hj
  have hlt := List.mem_range.1 hj
  rw [g j hlt, decide_eq_false (show ¬ (j : Int) = (i : Int) by omega), Bool.false_or]
  exact h2
def rowC (parts : List (List Cb)) (offs : List Cb) (i : Nat) : Bool := inCb (oAt offs i) (-12) 12 && (List.range i).all (fun k => !pairT parts offs i k)
theorem area_eq (parts : List (List Cb)) (offs : List Cb) : areOffP parts offs = (decide (offs.length = parts.length) && (decide (oAt offs 0 = ⟨0, 0, 0⟩) && (List.range offs.length).all (rowC parts offs))) := by
 unfold areOffP
 congr 2
 unfold clearP
 rw [Bool.eq_iff_iff, Bool.and_eq_true, List.all_eq_true, List.all_eq_true, List.all_eq_true]
 constructor
 ·rintro ⟨h1, h2⟩ i hi
  have hl := List.mem_range.1 hi
  unfold rowC
  rw [← alone_eq parts offs i (by omega), h2 i hi, Bool.and_true]
  have e : oAt offs i = offs[i] := by simp [oAt, List.getD_eq_getElem?_getD, hl]
  rw [e]
  exact h1 _ (List.getElem_mem hl)
 ·intro h
  refine ⟨fun c hc => ?_, fun i hi => ?_⟩
  ·obtain ⟨i, hi, rfl⟩ := List.mem_iff_getElem.1 hc
   have := h i (List.mem_range.2 hi)
   unfold rowC at this
   rw [Bool.and_eq_true] at this
   have e : oAt offs i = offs[i] := by simp [oAt, List.getD_eq_getElem?_getD, hi]
   rw [← e]
   exact this.1
  ·have hl := List.mem_range.1 hi
   have := h i hi
   unfold rowC at this
   rw [Bool.and_eq_true, ← alone_eq parts offs i (by omega)] at this
   exact this.2
section
attribute [local go_sem] max2_int min2_int max_two min_two max_three min_three max_four min_four
def spec_l01In.f (a0 : Int) (a1 : Int) (a2 : Int) : Option (Bool) := if a0 ≥ a1 then (some (decide (a0 ≤ a2))) else (some false)
set_option maxHeartbeats 8000000 in
set_option maxRecDepth 100000 in
theorem spec_l01In.calls (a0 : Int) (a1 : Int) (a2 : Int) (r : Bool) (w : World) (h : spec_l01In.f a0 a1 a2 = some r) :
    Calls Try.prog 64 #[.int .i64 a0, .int .i64 a1, .int .i64 a2] w fun e w' => e = .returned (.bool r) ∧ Drawn0 w w' := by
 (have H : (if a0 ≥ a1 then (some (decide (a0 ≤ a2))) else (some false)) = some r := h); clear h; (by_cases c4 : a0 ≥ a1)
 ·(rw [if_pos c4] at H); (have c4b0 : decide (a1 ≤ a0) = true := decide_eq_true c4); clear c4; (obtain rfl := Option.some.inj H); (go_enter Try.func64, Try.ntmps64); go_wp2; go_ret; (exact ⟨by first | rfl | (simp; done) | (simp [*]; done), by repeat (first | exact Drawn0.refl _ | apply Drawn0.step)⟩)
 ·(rw [if_neg c4] at H); (have c4b0 : decide (a1 ≤ a0) = false := decide_eq_false c4); clear c4; (obtain rfl := Option.some.inj H); (go_enter Try.func64, Try.ntmps64); go_wp2; go_ret; (exact ⟨by first | rfl | (simp; done) | (simp [*]; done), by repeat (first | exact Drawn0.refl _ | apply Drawn0.step)⟩)
end
section
attribute [local go_sem] max2_int min2_int max_two min_two max_three min_three max_four min_four
def spec_l02Cell.f (a0_0 : Int) (a0_1 : Int) : Option (Bool) := (spec_l01In.f a0_0 (-100) 100).bind fun t369 => (if t369 = true then ((spec_l01In.f a0_1 (-100) 100).bind fun t370 => (some t370)) else (some false))
set_option maxHeartbeats 8000000 in
set_option maxRecDepth 100000 in
theorem spec_l02Cell.calls (a0_0 : Int) (a0_1 : Int) (r : Bool) (w : World) (h : spec_l02Cell.f a0_0 a0_1 = some r) :
    Calls Try.prog 118 #[.agg #[.int .i64 a0_0, .int .i64 a0_1]] w fun e w' => e = .returned (.bool r) ∧ Below w.heap.size w w' := by
 (have hu144 := Try.underlying144); (have HB := A0_ (Below.refl w.heap.size w))
 have H : ((spec_l01In.f a0_0 (-100) 100).bind fun t369 => (if t369 = true then ((spec_l01In.f a0_1 (-100) 100).bind fun t370 => (some t370)) else (some false))) = some r := h
 clear h; (replace H := Option.bind_eq_some_iff.mp H); (obtain ⟨t369, A20, H⟩ := H); (try dsimp only at H); (have A2 := A0_ A20); clear A20; (have H0_ := A0_ H); clear H; (go_enter Try.func118, Try.ntmps118); (go_wp2_with (first | ((with_reducible refine gate_dst (N := 1) rfl ?_); refine be_ (N := 1) (cs := #[.int .i64 a0_0, .int .i64 a0_1]) (t := 144) ?_; intro gb368 hg w3 hbox hb; have n0_ := A0_ (below_step bw_ hb); have n1_ := A0_ (hbox); have n2_ := A0_ ((by rw [hg]; exact (below_size bw_) : w.heap.size ≤ gb368)); have n3_ := A0_ ((by rw [hg]; exact (below_size bw_) : w.heap.size ≤ gb368)); clear HB; have HB := n0_; have BK368 := n1_; have GW368 := n2_; have GE368 := n3_; clear n0_ n1_ n2_ n3_; clear hb hbox hg; have hcz4_0 : w3.cell? ⟨gb368, 0, none⟩ = some (.int .i64 a0_0) := (blk_cell BK368.out 0).trans rfl; have hcz4_1 : w3.cell? ⟨gb368, 1, none⟩ = some (.int .i64 a0_1) := (blk_cell BK368.out 1).trans rfl; have hfz4_0 := blk_frozen BK368.out 0; have hfz4_1 := blk_frozen BK368.out 1) | ((with_reducible refine gate_callee (f := 64) rfl ?_); refine gl_ (some 5) Try.func64 #[.int .i64 a0_0, .int .i64 (-100), .int .i64 100] ?_; (with_reducible refine (spec_l01In.calls a0_0 (-100) 100 t369 _ A2.out).mono ?_); rintro e w' ⟨rfl, ⟨nd, rfl⟩⟩; refine ⟨_, rfl, ?_⟩; refine Stop0.out ?_))); (refine Stop0.mk ?_); (have H := H0_.out); clear H0_; (by_cases c5 : t369 = true)
 ·subst c5; (have H1 := H); (rw [if_pos rfl] at H1); clear H; (have H := H1); clear H1; (replace H := Option.bind_eq_some_iff.mp H); (obtain ⟨t370, A60, H⟩ := H); (try dsimp only at H); (have A6 := A0_ A60); clear A60; (have H0_ := A0_ H); clear H; (have hcz7_0 : w3.cell? ⟨gb368, 0, none⟩ = some (.int .i64 a0_0) := (blk_cell BK368.out 0).trans rfl); (have hcz7_1 : w3.cell? ⟨gb368, 1, none⟩ = some (.int .i64 a0_1) := (blk_cell BK368.out 1).trans rfl); (have hfz7_0 := blk_frozen BK368.out 0); (have hfz7_1 := blk_frozen BK368.out 1); (go_wp2_with (first | (go_at_call 64; (with_reducible refine (spec_l01In.calls a0_1 (-100) 100 t370 _ A6.out).mono ?_); rintro e w' ⟨rfl, ⟨nd, rfl⟩⟩; refine Stop0.out ?_))); (refine Stop0.mk ?_); (have H := H0_.out); clear H0_; (obtain rfl := Option.some.inj H); go_wp2; go_ret; (exact ⟨er_, bx_⟩)
 ·(replace c5 := Bool.eq_false_iff.mpr c5); subst c5; (have H1 : (some false) = some r := by rw [if_neg (show ¬ (false = true) by decide)] at H; exact H); clear H; (have H := H1); clear H1; (obtain rfl := Option.some.inj H); go_wp2; go_ret; (exact ⟨er_, bx_⟩)
end
section
attribute [local go_sem] max2_int min2_int max_two min_two max_three min_three max_four min_four
def spec_l09Cube.f (a0_0 : Int) (a0_1 : Int) (a0_2 : Int) : Option (Bool) := (spec_l02Cell.f a0_0 a0_1).bind fun t372 => (if t372 = true then ((spec_l01In.f a0_2 (-100) 100).bind fun t373 => (some t373)) else (some false))
set_option maxHeartbeats 8000000 in
set_option maxRecDepth 100000 in
theorem spec_l09Cube.calls (a0_0 : Int) (a0_1 : Int) (a0_2 : Int) (r : Bool) (w : World) (h : spec_l09Cube.f a0_0 a0_1 a0_2 = some r) :
    Calls Try.prog 108 #[.agg #[.int .i64 a0_0, .int .i64 a0_1, .int .i64 a0_2]] w fun e w' => e = .returned (.bool r) ∧ Below w.heap.size w w' := by
 (have hu94 := Try.underlying94); (have hu144 := Try.underlying144); (have HB := A0_ (Below.refl w.heap.size w))
 have H : ((spec_l02Cell.f a0_0 a0_1).bind fun t372 => (if t372 = true then ((spec_l01In.f a0_2 (-100) 100).bind fun t373 => (some t373)) else (some false))) = some r := h
 clear h; (replace H := Option.bind_eq_some_iff.mp H); (obtain ⟨t372, A20, H⟩ := H); (try dsimp only at H); (have A2 := A0_ A20); clear A20; (have H0_ := A0_ H); clear H; (go_enter Try.func108, Try.ntmps108); (go_wp2_with (first | ((with_reducible refine gate_dst (N := 1) rfl ?_); refine be_ (N := 1) (cs := #[.int .i64 a0_0, .int .i64 a0_1, .int .i64 a0_2]) (t := 94) ?_; intro gb371 hg w3 hbox hb; have n0_ := A0_ (below_step bw_ hb); have n1_ := A0_ (hbox); have n2_ := A0_ ((by rw [hg]; exact (below_size bw_) : w.heap.size ≤ gb371)); have n3_ := A0_ ((by rw [hg]; exact (below_size bw_) : w.heap.size ≤ gb371)); clear HB; have HB := n0_; have BK371 := n1_; have GW371 := n2_; have GE371 := n3_; clear n0_ n1_ n2_ n3_; clear hb hbox hg; have hcz4_0 : w3.cell? ⟨gb371, 0, none⟩ = some (.int .i64 a0_0) := (blk_cell BK371.out 0).trans rfl; have hcz4_1 : w3.cell? ⟨gb371, 1, none⟩ = some (.int .i64 a0_1) := (blk_cell BK371.out 1).trans rfl; have hcz4_2 : w3.cell? ⟨gb371, 2, none⟩ = some (.int .i64 a0_2) := (blk_cell BK371.out 2).trans rfl; have hfz4_0 := blk_frozen BK371.out 0; have hfz4_1 := blk_frozen BK371.out 1; have hfz4_2 := blk_frozen BK371.out 2) | ((with_reducible refine gate_callee (f := 118) rfl ?_); refine gl_ (some 8) Try.func118 #[.agg #[.int .i64 a0_0, .int .i64 a0_1]] ?_; (with_reducible refine (spec_l02Cell.calls a0_0 a0_1 t372 _ A2.out).mono ?_); rintro e w5 ⟨rfl, hb⟩; refine ⟨_, rfl, ?_⟩; have n0_ := A0_ (blk_below (g := gb371) (o := .cells #[.int .i64 a0_0, .int .i64 a0_1, .int .i64 a0_2] 94 (0, 0)) (bk_ BK371) hb); have n1_ := A0_ (below_step bx_ hb); clear BK371; clear HB; have BK371 := n0_; have HB := n1_; clear n0_ n1_; (try clear hb); (try clear hb2); (try clear hk); (try clear hi); refine Stop0.out ?_))); (refine Stop0.mk ?_); (have H := H0_.out); clear H0_; (by_cases c6 : t372 = true)
 ·subst c6; (have H1 := H); (rw [if_pos rfl] at H1); clear H; (have H := H1); clear H1; (replace H := Option.bind_eq_some_iff.mp H); (obtain ⟨t373, A70, H⟩ := H); (try dsimp only at H); (have A7 := A0_ A70); clear A70; (have H0_ := A0_ H); clear H; (have hcz8_0 : w5.cell? ⟨gb371, 0, none⟩ = some (.int .i64 a0_0) := (blk_cell BK371.out 0).trans rfl); (have hcz8_1 : w5.cell? ⟨gb371, 1, none⟩ = some (.int .i64 a0_1) := (blk_cell BK371.out 1).trans rfl); (have hcz8_2 : w5.cell? ⟨gb371, 2, none⟩ = some (.int .i64 a0_2) := (blk_cell BK371.out 2).trans rfl); (have hfz8_0 := blk_frozen BK371.out 0); (have hfz8_1 := blk_frozen BK371.out 1); (have hfz8_2 := blk_frozen BK371.out 2); (go_wp2_with (first | (go_at_call 64; (with_reducible refine (spec_l01In.calls a0_2 (-100) 100 t373 _ A7.out).mono ?_); rintro e w' ⟨rfl, ⟨nd, rfl⟩⟩; refine Stop0.out ?_))); (refine Stop0.mk ?_); (have H := H0_.out); clear H0_; (obtain rfl := Option.some.inj H); go_wp2; go_ret; (exact ⟨er_, bx_⟩)
 ·(replace c6 := Bool.eq_false_iff.mpr c6); subst c6; (have H1 : (some false) = some r := by rw [if_neg (show ¬ (false = true) by decide)] at H; exact H); clear H; (have H := H1); clear H1; (obtain rfl := Option.some.inj H); go_wp2; go_ret; (exact ⟨er_, bx_⟩)
end
section
attribute [local go_sem] max2_int min2_int max_two min_two max_three min_three max_four min_four
def spec_l27Vector.f (a0 : Int) : Option (Int × Int × Int) := (some (([(⟨(-1), 0, 0⟩ : S94), (⟨1, 0, 0⟩ : S94), (⟨0, (-1), 0⟩ : S94), (⟨0, 1, 0⟩ : S94), (⟨0, 0, (-1)⟩ : S94), (⟨0, 0, 1⟩ : S94)] : List (S94)) : List (S94))).bind fun y405 => (if 0 ≤ a0 then (if a0 < (y405.length : Int) then (some ((rd_T94 y405 a0).f0, (rd_T94 y405 a0).f1, (rd_T94 y405 a0).f2)) else (none)) else (none))
set_option maxHeartbeats 8000000 in
set_option maxRecDepth 100000 in
theorem spec_l27Vector.calls (a0 : Int) (r1 : Int) (r2 : Int) (r3 : Int) (w : World) (h : spec_l27Vector.f a0 = some (r1, r2, r3)) :
    Calls Try.prog 90 #[.int .i64 a0] w fun e w' => e = .returned (.agg #[.int .i64 r1, .int .i64 r2, .int .i64 r3]) ∧ Below w.heap.size w w' := by
 (have hu94 := Try.underlying94); (have HB := A0_ (Below.refl w.heap.size w))
 have H : ((some (([(⟨(-1), 0, 0⟩ : S94), (⟨1, 0, 0⟩ : S94), (⟨0, (-1), 0⟩ : S94), (⟨0, 1, 0⟩ : S94), (⟨0, 0, (-1)⟩ : S94), (⟨0, 0, 1⟩ : S94)] : List (S94)) : List (S94))).bind fun y405 => (if 0 ≤ a0 then (if a0 < (y405.length : Int) then (some ((rd_T94 y405 a0).f0, (rd_T94 y405 a0).f1, (rd_T94 y405 a0).f2)) else (none)) else (none))) = some (r1, r2, r3) := h
 clear h; (obtain ⟨y405, hy405⟩ : ∃ y_ : List (S94), y_ = (([(⟨(-1), 0, 0⟩ : S94), (⟨1, 0, 0⟩ : S94), (⟨0, (-1), 0⟩ : S94), (⟨0, 1, 0⟩ : S94), (⟨0, 0, (-1)⟩ : S94), (⟨0, 0, 1⟩ : S94)] : List (S94))) := ⟨_, rfl⟩); (replace H : (if 0 ≤ a0 then (if a0 < (y405.length : Int) then (some ((rd_T94 y405 a0).f0, (rd_T94 y405 a0).f1, (rd_T94 y405 a0).f2)) else (none)) else (none)) = some (r1, r2, r3) := by first | (rw [hy405]; with_reducible exact H) | (have H2_ := (Option.bind_some _ _).symm.trans H; rw [hy405]; with_reducible exact H2_) | (have H2_ := (Option.bind_some _ _).symm.trans H; with_reducible exact H2_) | with_reducible exact H | (rw [hy405]; exact H) | exact H); (have Ny405 := A0_ hy405); clear hy405; (by_cases c2 : 0 ≤ a0)
 ·(rw [if_pos c2] at H); (have c2b0 : decide (0 ≤ a0) = true := decide_eq_true c2); clear c2; (by_cases c3 : a0 < (y405.length : Int))
  ·(rw [if_pos c3] at H); (have c3b0 : decide (a0 < (y405.length : Int)) = true := decide_eq_true c3); clear c3; (simp only [Option.some.injEq, Prod.mk.injEq] at H); (obtain ⟨rfl, rfl, rfl⟩ := H); (go_enter Try.func90, Try.ntmps90)
   go_wp2_with (first | ((with_reducible refine gate_dst (N := 2) rfl ?_); refine be_ (N := 2) (cs := #[.int .i64 0, .int .i64 0, .int .i64 0]) (t := 94) ?_; intro gb404 hg w4 hbox hb; have n0_ := A0_ (below_step bw_ hb); have n1_ := A0_ (hbox); have n2_ := A0_ ((by rw [hg]; exact (below_size bw_) : w.heap.size ≤ gb404)); have n3_ := A0_ ((by rw [hg]; exact (below_size bw_) : w.heap.size ≤ gb404)); clear HB; have HB := n0_; have BK404 := n1_; have GW404 := n2_; have GE404 := n3_; clear n0_ n1_ n2_ n3_; clear hb hbox hg) | ((with_reducible refine gate_dst (N := 9) rfl ?_); refine Kd.R_lit k94 _ 94 ?hg (N := 9) ?hd (xs := ([(⟨(-1), 0, 0⟩ : S94), (⟨1, 0, 0⟩ : S94), (⟨0, (-1), 0⟩ : S94), (⟨0, 1, 0⟩ : S94), (⟨0, 0, (-1)⟩ : S94), (⟨0, 0, 1⟩ : S94)] : List (S94))) (inner := [.int .i64 (-1), .int .i64 0, .int .i64 0, .int .i64 1, .int .i64 0, .int .i64 0, .int .i64 0, .int .i64 (-1), .int .i64 0, .int .i64 0, .int .i64 1, .int .i64 0, .int .i64 0, .int .i64 0, .int .i64 (-1), .int .i64 0, .int .i64 0, .int .i64 1]) (ok := fun _ => True) (okp := fun _ => True) ?hr ?hp (fun _ hk => hk) trivial (Below.refl _ _) (Nat.le_refl _) (by simp) ?_; (case hd => rfl); (case hg => rfl); (case hr => first | (go_simp; done) | (go_simp; rfl)); (case hp => exact (Reps.c3 (show Kd.M k94 _ _ _ (⟨(-1), 0, 0⟩ : S94) [.int .i64 (-1), .int .i64 0, .int .i64 0] from (k94_mkM _ _ _ (⟨(-1), 0, 0⟩ : S94) )) (Reps.c3 (show Kd.M k94 _ _ _ (⟨1, 0, 0⟩ : S94) [.int .i64 1, .int .i64 0, .int .i64 0] from (k94_mkM _ _ _ (⟨1, 0, 0⟩ : S94) )) (Reps.c3 (show Kd.M k94 _ _ _ (⟨0, (-1), 0⟩ : S94) [.int .i64 0, .int .i64 (-1), .int .i64 0] from (k94_mkM _ _ _ (⟨0, (-1), 0⟩ : S94) )) (Reps.c3 (show Kd.M k94 _ _ _ (⟨0, 1, 0⟩ : S94) [.int .i64 0, .int .i64 1, .int .i64 0] from (k94_mkM _ _ _ (⟨0, 1, 0⟩ : S94) )) (Reps.c3 (show Kd.M k94 _ _ _ (⟨0, 0, (-1)⟩ : S94) [.int .i64 0, .int .i64 0, .int .i64 (-1)] from (k94_mkM _ _ _ (⟨0, 0, (-1)⟩ : S94) )) (Reps.c3 (show Kd.M k94 _ _ _ (⟨0, 0, 1⟩ : S94) [.int .i64 0, .int .i64 0, .int .i64 1] from (k94_mkM _ _ _ (⟨0, 0, 1⟩ : S94) )) (Reps.none _ _)))))))); intro v406 w5 ho6 hb hg_ hnew_; clear hg_ hnew_; (first | rw [← Ny405.out] at ho6 | (simp only [Int.reduceToNat] at ho6; rw [← Ny405.out] at ho6)); have n0_ := A0_ (Kd.R_lower (Kd.R_newB ho6 (g := gb404) (o := .cells #[.int .i64 0, .int .i64 0, .int .i64 0] 94 (0, 0)) (bk_ BK404)) (below_size bx_)); have n1_ := A0_ (blk_below (g := gb404) (o := .cells #[.int .i64 0, .int .i64 0, .int .i64 0] 94 (0, 0)) (bk_ BK404) hb); have n2_ := A0_ (below_step bx_ hb); clear BK404; clear HB; have HO407 := n0_; have BK404 := n1_; have HB := n2_; clear n0_ n1_ n2_; clear hb ho6; obtain ⟨Ao7, co7, eo7⟩ := Kd.R_slice HO407.out; subst eo7; have p408 : 0 ≤ (a0 : Int) := of_decide_eq_true as_; have q408 : a0 < (y405.length : Int) := of_decide_eq_true as_; obtain ⟨ad408, e408, hx408_0, hx408_1, hx408_2⟩ := at_T94 (Kd.R_reads' HO407.out).2.2 a0 p408 q408; cases e408; replace p408 := eq_true p408; replace q408 := eq_true q408; have hcz8_0 : w5.cell? ⟨gb404, 0, none⟩ = some (.int .i64 0) := (blk_cell BK404.out 0).trans rfl; have hcz8_1 : w5.cell? ⟨gb404, 1, none⟩ = some (.int .i64 0) := (blk_cell BK404.out 1).trans rfl; have hcz8_2 : w5.cell? ⟨gb404, 2, none⟩ = some (.int .i64 0) := (blk_cell BK404.out 2).trans rfl; have hfz8_0 := blk_frozen BK404.out 0; have hfz8_1 := blk_frozen BK404.out 1; have hfz8_2 := blk_frozen BK404.out 2))
   (refine bodyPost_ret (results_cell_row rfl _ _ gb404 94 #[.int .i64 ((rd_T94 y405 a0).f0), .int .i64 ((rd_T94 y405 a0).f1), .int .i64 ((rd_T94 y405 a0).f2)] (0, 0) _ rfl (by (with_reducible repeat (first | apply gn_ | apply gd_ | apply ga_)); refine blk_put (cs := #[.int .i64 ((rd_T94 y405 a0).f0), .int .i64 ((rd_T94 y405 a0).f1), .int .i64 0]) ?_ 2 _ rfl; (with_reducible repeat (first | apply gn_ | apply gd_ | apply ga_)); refine blk_put (cs := #[.int .i64 ((rd_T94 y405 a0).f0), .int .i64 0, .int .i64 0]) ?_ 1 _ rfl; (with_reducible repeat (first | apply gn_ | apply gd_ | apply ga_)); refine blk_put (cs := #[.int .i64 0, .int .i64 0, .int .i64 0]) ?_ 0 _ rfl; exact bk_ BK404) Try.underlying94 rfl (by kernel_rfl)) rfl ?_); (exact ⟨er_, bx_⟩)
  ·(rw [if_neg c3] at H); (exact absurd H (by simp))
 ·(rw [if_neg c2] at H); (exact absurd H (by simp))
end
theorem in_eq (a lo hi : Int) : spec_l01In.f a lo hi = some (inR a lo hi) := by
 unfold spec_l01In.f inR
 by_cases h : a ≥ lo
 ·rw [if_pos h, decide_eq_true (show lo ≤ a from h), Bool.true_and]
 ·rw [if_neg h, decide_eq_false (show ¬ lo ≤ a from h), Bool.false_and]
theorem less_eq (a b : Cb) : spec_l09Less.f a.f0 a.f1 a.f2 b.f0 b.f1 b.f2 = some (lessC a b) := by
 unfold spec_l09Less.f lessC
 by_cases c2 : a.f2 < b.f2
 ·rw [if_pos c2, if_neg (by omega), decide_eq_true c2]
 ·rw [if_neg c2]
  by_cases e2 : a.f2 = b.f2
  ·rw [if_pos e2, if_pos e2]
   by_cases c1 : a.f1 < b.f1
   ·rw [if_pos c1, if_neg (by omega), decide_eq_true c1]
   ·rw [if_neg c1]
    by_cases e1 : a.f1 = b.f1
    ·rw [if_pos e1, if_pos e1]
    ·rw [if_neg e1, if_neg e1, decide_eq_false c1]
  ·rw [if_neg e2, if_neg e2, decide_eq_false c2]
theorem cube_eq (c : Cb) : spec_l09Cube.f c.f0 c.f1 c.f2 = some (inCb c (-100) 100) := by
 unfold spec_l09Cube.f spec_l02Cell.f inCb
 simp only [in_eq, Option.bind_some]
 cases inR c.f0 (-100) 100 <;> cases inR c.f1 (-100) 100 <;> simp
theorem vec_eq (q : Int) (h : 0 ≤ q ∧ q < 6) : spec_l27Vector.f q = some ((vecP q).f0, (vecP q).f1, (vecP q).f2) := by
 obtain h | h | h | h | h | h : q = 0 ∨ q = 1 ∨ q = 2 ∨ q = 3 ∨ q = 4 ∨ q = 5 := by omega
 all_goals subst h; rfl
def spec_l27Clear.f (k : Nat) (l : List (List Cb)) (offs : List Cb) : Option Bool := if (1 ≤ l.length ∧ l.length ≤ 8) ∧ (∀ p ∈ l, p.length ≤ 1048576) ∧ (∀ p ∈ l, ∀ c ∈ p, inCb c 0 7 = true) then some (areOffP l offs) else none
theorem move_at (l : List Cb) (d : Cb) (h : l.length ≤ 1048576) : ∃ K m, m = (l.map fun c => addC c d) ∧ m.length = l.length ∧ spec_l09Move.f K l d.f0 d.f1 d.f2 = some m := by
 (obtain ⟨K, hK⟩ := (smove_ev l d h).rounds); (exact ⟨K, _, rfl, List.length_map _, hK⟩)
theorem pair_at (parts : List (List Cb)) (offs : List Cb) (i j : Nat) (hi : ∀ c ∈ pAt parts i, inCb c 0 7 = true) (hj : ∀ c ∈ pAt parts j, inCb c 0 7 = true) (h1 : inCb (oAt offs i) (-12) 12 = true) (h2 : inCb (oAt offs j) (-12) 12 = true) :
    (((pAt parts i).map fun c => addC c (oAt offs i)).any fun c => ((pAt parts j).map fun c => addC c (oAt offs j)).contains c) = pairT parts offs i j := pair_same _ _ _ _ hi hj h1 h2
def sclF.T12 : Bool × List (List Nat × List Nat) := (true, [([], []), ([0], [0]), ([], []), ([1, 2], [1, 2]), ([3], [3]), ([], []), ([4, 5], [4, 5]), ([], []), ([7], [7]), ([], []), ([8, 9], [8, 9]), ([10], [10]), ([], []), ([], []), ([12, 13], [12, 13]), ([14], [14]), ([11, 15, 6], [11, 15]), ([6, 16, 16], [6, 16])])
def sclF.B12 : List Nat := [0, 1, 0, 7, 15, 0, 63, 0, 128, 0, 896, 1920, 0, 0, 12288, 28672, 65535, 131071]
theorem sclF.tab12 : rtab .any (opsOf Try.f88 12) = sclF.T12 := by kernel_rfl
theorem sclF.bits12 : waitsOk sclF.T12.2 sclF.B12 = true := by kernel_rfl
set_option maxHeartbeats 4000000 in
set_option maxRecDepth 100000 in
theorem spec_l27Clear.calls (k : Nat) (A0_0 : Option Addr) (c0_0 : Nat) (l0_0 : List (List Cb)) (A1 : Option Addr) (c1 : Nat) (l1 : List Cb) (r : Bool) (w : World) (hr0_0 : Kd.C (Kd.slice 94 k94) w A0_0 l0_0.length l0_0) (hc0_0 : l0_0.length ≤ c0_0) (hr1 : Kd.C k94 w A1 l1.length l1) (hc1 : l1.length ≤ c1) (h : spec_l27Clear.f k l0_0 l1 = some r) :
    Calls Try.prog 88 #[.agg #[.slice A0_0 l0_0.length c0_0], .slice A1 l1.length c1] w fun e w' => e = .returned (.bool r) ∧ Below w.heap.size w w' := by
 (have hu32 := Try.underlying26); (have hu69 := Try.underlying94); (unfold spec_l27Clear.f at h); (split at h)
 case isFalse => cases h
 (rename_i hz); (obtain rfl := Option.some.inj h); (have HR0 := A0_ hr0_0); (have HR1 := A0_ hr1); (have HZ := A0_ hz); (have HS := A0_ (Sp.start w)); (have hae := area_eq l0_0 l1); clear hr0_0 hr1 hz h; (by_cases hl : l1.length = l0_0.length)
 case neg =>
  (have HF := A0_ (show areOffP l0_0 l1 = false by rw [hae, decide_eq_false hl, Bool.false_and])); (have d1 : ((l1.length : Int) != (l0_0.length : Int)) = true := by rw [bne_iff_ne]; omega); (have d2 : (l1.length = l0_0.length) = False := eq_false hl); clear hl hae; (go_enter Try.func88, Try.ntmps88)
  go_wp2_with (first
   | ((with_reducible refine gate_dst (N := 2) rfl ?_); refine be_ (N := 2) (cs := #[.slice A0_0 l0_0.length c0_0]) (t := 26) ?_; intro ga hgb_ wb_ hcb_ hbb_; replace HS := A0_ (Sp.boxed HS.out hgb_ hcb_ hbb_); clear hgb_ hcb_ hbb_; have ha0 := (cl_ HS 0 0 rfl).trans rfl))
  go_ret; (exact ⟨by rw [HF.out]; rfl, HS.out.below⟩)
 (have HLN := A0_ hl); (rw [decide_eq_true hl, Bool.true_and] at hae); (have d1 : ((l1.length : Int) != (l0_0.length : Int)) = false := by rw [bne_eq_false_iff_eq]; omega); (have d2 : (l1.length = l0_0.length) = True := eq_true hl); (have p0 : (0 < l1.length) = True := eq_true (by have := HZ.out.1; omega)); (have p1 : ((0 : Int) < (l1.length : Int)) = True := eq_true (by have := HZ.out.1; omega)); (obtain ⟨ado, e, hx0, hx1, hx2⟩ := at_T94 HR1.out 0 (by omega) (by have := HZ.out.1; omega)); subst e; (rw [show rd_T94 l1 0 = oAt l1 0 from rfl] at hx0 hx1 hx2); (rw [show (0 : Int).toNat * 3 = 0 from rfl, Addr.add_zero'] at hx0 hx1 hx2); (obtain ⟨q, hq⟩ : ∃ q, q = oAt l1 0 := ⟨_, rfl⟩); (rw [← hq] at hx0 hx1 hx2 hae)
 cases hz : decide (q = ⟨0, 0, 0⟩) with
 | false =>
  (have HF := A0_ (show areOffP l0_0 l1 = false by rw [hae, hz, Bool.false_and]))
  have hd : q.f0 ≠ 0 ∨ (q.f0 = 0 ∧ q.f1 ≠ 0) ∨ (q.f0 = 0 ∧ q.f1 = 0 ∧ q.f2 ≠ 0) := by
   (have h := of_decide_eq_false hz); (rcases q with ⟨q0, q1, q2⟩); (by_cases e0 : q0 = 0)
   ·(by_cases e1 : q1 = 0)
    ·refine .inr (.inr ⟨e0, e1, fun e2 => h ?_⟩)
     (subst e0 e1); (simp only at e2); subst e2; rfl
    ·(exact .inr (.inl ⟨e0, e1⟩))
   ·(exact .inl e0)
  clear hz hae hl hq; (rcases hd with h0 | ⟨h0, h1⟩ | ⟨h0, h1, h2⟩)
  ·(have z0 : (q.f0 = 0) = False := eq_false h0); (have z0' : (q.f0 == 0) = false := by rw [beq_eq_false_iff_ne]; exact h0); (have HX0 := A0_ hx0); (have HX1 := A0_ hx1); (have HX2 := A0_ hx2); clear h0 hx0 hx1 hx2; (go_enter Try.func88, Try.ntmps88)
   go_wp2_with (first
    | ((with_reducible refine gate_dst (N := 2) rfl ?_); refine be_ (N := 2) (cs := #[.slice A0_0 l0_0.length c0_0]) (t := 26) ?_; intro ga hgb_ wb_ hcb_ hbb_; replace HS := A0_ (Sp.boxed HS.out hgb_ hcb_ hbb_); clear hgb_ hcb_ hbb_; have ha0 := (cl_ HS 0 0 rfl).trans rfl; have hx0 := pw_cell_below HS.out.below HX0.out; have hx1 := pw_cell_below HS.out.below HX1.out; have hx2 := pw_cell_below HS.out.below HX2.out))
   go_ret; (exact ⟨by rw [HF.out]; rfl, HS.out.below⟩)
  ·(rw [h0] at hx0); (have z1 : (q.f1 = 0) = False := eq_false h1); (have z1' : (q.f1 == 0) = false := by rw [beq_eq_false_iff_ne]; exact h1); (have HX0 := A0_ hx0); (have HX1 := A0_ hx1); (have HX2 := A0_ hx2); clear h0 h1 hx0 hx1 hx2; (go_enter Try.func88, Try.ntmps88)
   go_wp2_with (first
    | ((with_reducible refine gate_dst (N := 2) rfl ?_); refine be_ (N := 2) (cs := #[.slice A0_0 l0_0.length c0_0]) (t := 26) ?_; intro ga hgb_ wb_ hcb_ hbb_; replace HS := A0_ (Sp.boxed HS.out hgb_ hcb_ hbb_); clear hgb_ hcb_ hbb_; have ha0 := (cl_ HS 0 0 rfl).trans rfl; have hx0 := pw_cell_below HS.out.below HX0.out; have hx1 := pw_cell_below HS.out.below HX1.out; have hx2 := pw_cell_below HS.out.below HX2.out))
   go_ret; (exact ⟨by rw [HF.out]; rfl, HS.out.below⟩)
  ·(rw [h0] at hx0); (rw [h1] at hx1); (have z2 : (q.f2 = 0) = False := eq_false h2); (have z2' : (q.f2 == 0) = false := by rw [beq_eq_false_iff_ne]; exact h2); (have HX0 := A0_ hx0); (have HX1 := A0_ hx1); (have HX2 := A0_ hx2); clear h0 h1 h2 hx0 hx1 hx2; (go_enter Try.func88, Try.ntmps88)
   go_wp2_with (first
    | ((with_reducible refine gate_dst (N := 2) rfl ?_); refine be_ (N := 2) (cs := #[.slice A0_0 l0_0.length c0_0]) (t := 26) ?_; intro ga hgb_ wb_ hcb_ hbb_; replace HS := A0_ (Sp.boxed HS.out hgb_ hcb_ hbb_); clear hgb_ hcb_ hbb_; have ha0 := (cl_ HS 0 0 rfl).trans rfl; have hx0 := pw_cell_below HS.out.below HX0.out; have hx1 := pw_cell_below HS.out.below HX1.out; have hx2 := pw_cell_below HS.out.below HX2.out))
   go_ret; (exact ⟨by rw [HF.out]; rfl, HS.out.below⟩)
 | true =>
  (rw [hz, Bool.true_and] at hae); (obtain rfl := of_decide_eq_true hz); (have HAE := A0_ hae); (have HX0 := A0_ hx0); (have HX1 := A0_ hx1); (have HX2 := A0_ hx2); clear hx0 hx1 hx2 hq hl hae hz; (go_enter Try.func88, Try.ntmps88)
  go_wp2_with (first
   | ((with_reducible refine gate_dst (N := 2) rfl ?_); refine be_ (N := 2) (cs := #[.slice A0_0 l0_0.length c0_0]) (t := 26) ?_; intro ga hgb_ wb_ hcb_ hbb_; replace HS := A0_ (Sp.boxed HS.out hgb_ hcb_ hbb_); clear hgb_ hcb_ hbb_; have ha0 := (cl_ HS 0 0 rfl).trans rfl; have hx0 := pw_cell_below HS.out.below HX0.out; have hx1 := pw_cell_below HS.out.below HX1.out; have hx2 := pw_cell_below HS.out.below HX2.out))
  clear hx0 hx1 hx2 ha0
  go_loopg [5] (l1.length + 1) (fun kq v5 w' => ∃ (i : Nat), v5 = .int .i64 (i : Int) ∧ Aside0 (i ≤ l1.length ∧ kq + i = l1.length + 1 ∧ (List.range i).all (rowC l0_0 l1) = true) ∧ Aside0 (Sp w [Res.blk ga #[.slice A0_0 l0_0.length c0_0] 26] w'))
  case atStart => exact ⟨0, rfl, ⟨by omega, by omega, rfl⟩, HS⟩
  case round =>
   clear HS; (obtain ⟨i, rfl, HX, HS⟩ := hrel); (obtain ⟨k1, rfl⟩ : ∃ k1, gk = k1 + 1 := ⟨gk - 1, by have := HX.out; omega⟩); (by_cases ci : i < l1.length)
   ·(have ci0 : decide (i < l1.length) = true := decide_eq_true ci); (have q0 : (0 ≤ (i : Int)) = True := eq_true (by omega)); (have q1 : ((i : Int) < (l1.length : Int)) = True := eq_true (by omega)); (have q2 : (i < l1.length) = True := eq_true ci); (have q3 : ((i : Int) < (l0_0.length : Int)) = True := eq_true (by have := HLN.out; omega)); (have q4 : (i < l0_0.length) = True := eq_true (by have := HLN.out; omega)); (have HW := A0_ (wrap_succ i (by have := HZ.out.1; have := HLN.out; omega)))
    have hno := fun h => HAE.out.trans (range_no (rowC l0_0 l1) l1.length i ci h)
    (have hnx := range_next (rowC l0_0 l1) i HX.out.2.2)
    have HIN := A0_ (fun (k : Nat) (hk : k < i) => show inCb (oAt l1 k) (-12) 12 = true by
     (have h := List.all_eq_true.1 HX.out.2.2 k (List.mem_range.2 hk)); (unfold rowC at h); (rw [Bool.and_eq_true] at h); (exact h.1))
    (have hil : i < l0_0.length := by have := HLN.out; omega); (obtain ⟨adp, Ai, ci_, e, hy0, hy1, hy2⟩ := at_L3 HR0.out (i : Int) (by omega) (by omega)); subst e; (have hpl := HZ.out.2.1 _ (pAt_mem l0_0 i hil)); (have hpc := HZ.out.2.2 _ (pAt_mem l0_0 i hil)); (rw [show rd_L3 l0_0 (i : Int) = pAt l0_0 i from rfl] at hy0 hy1 hy2); (rw [Int.toNat_natCast] at hy0); (obtain ⟨ad2, e, hx0, hx1, hx2⟩ := at_T94 (Kd.C_below HR1.out HS.out.below) (i : Int) (by omega) (by omega)); (injection e with e); subst e; (rw [show rd_T94 l1 (i : Int) = oAt l1 i from rfl] at hx0 hx1 hx2); (rw [Int.toNat_natCast] at hx0 hx1 hx2); (unfold rowC at hno hnx)
    have HPR := A0_ (fun j (hj : ∀ c ∈ pAt l0_0 j, inCb c 0 7 = true) h1 h2 => pair_at l0_0 l1 i j hpc hj h1 h2)
    (have HCI := A0_ ci); (obtain ⟨p, hp⟩ : ∃ p, p = pAt l0_0 i := ⟨_, rfl⟩); (rw [← hp] at hy0 hy1 hy2 hpl hpc HPR); (obtain ⟨o, ho⟩ : ∃ o, o = oAt l1 i := ⟨_, rfl⟩); (rw [← ho] at hx0 hx1 hx2 hno hnx HPR); (have HP0 := A0_ hy0); (have HP1 := A0_ hy1); (have HP2 := A0_ hy2); (have HPL := A0_ hpl); clear ci hp ho hy0 hy1 hy2 hil hpl hpc; (have ha0 : wr.cell? ⟨ga, 0, none⟩ = some (.slice (some adp) l0_0.length c0_0) := (cl_ HS 0 0 rfl).trans rfl)
    have hin : ∀ x : Int, spec_l01In.f x (-12) 12 = some (inR x (-12) 12) := fun x => in_eq x (-12) 12
    cases b0 : inR o.f0 (-12) 12 with
    | false =>
     (have HB0 := A0_ ((hin o.f0).trans (congrArg some b0))); (have HF := A0_ (hno (by unfold inCb; rw [b0]; rfl))); clear b0 hin hno hnx
     go_wp2_with (first
      | (go_at_call 64; obtain ⟨gx, hg_⟩ : ∃ g_, g_ = (wr).heap.size := ⟨_, rfl⟩; obtain ⟨wx, hw_⟩ : ∃ w_, w_ = (wr).alloc (.cells #[.int .i64 o.f0, .int .i64 o.f1, .int .i64 o.f2] 94) := ⟨_, rfl⟩; (try rw [← hw_]); (try rw [← hg_]); have HS_ := A0_ (Sp.box HS.out #[.int .i64 o.f0, .int .i64 o.f1, .int .i64 o.f2] 94); rw [← hw_, ← hg_] at HS_; clear HS; have HS := HS_; clear HS_ hw_ hg_; refine (spec_l01In.calls o.f0 (-12) 12 false _ HB0.out).mono ?_; rintro e wc_ ⟨rfl, hb_⟩; replace HS := A0_ (Sp.far HS.out hb_.below); clear hb_ ha0 hx0 hx1 hx2 HB0))
     go_ret; (exact ⟨by rw [HF.out]; rfl, HS.out.below⟩)
    | true =>
    (have HB0 := A0_ ((hin o.f0).trans (congrArg some b0)))
    cases b1 : inR o.f1 (-12) 12 with
    | false =>
     (have HB1 := A0_ ((hin o.f1).trans (congrArg some b1))); (have HF := A0_ (hno (by unfold inCb; rw [b0, b1]; rfl))); clear b0 b1 hin hno hnx
     go_wp2_with (first
      | (go_at_call 64; obtain ⟨gx, hg_⟩ : ∃ g_, g_ = (wr).heap.size := ⟨_, rfl⟩; obtain ⟨wx, hw_⟩ : ∃ w_, w_ = (wr).alloc (.cells #[.int .i64 o.f0, .int .i64 o.f1, .int .i64 o.f2] 94) := ⟨_, rfl⟩; (try rw [← hw_]); (try rw [← hg_]); have HS_ := A0_ (Sp.box HS.out #[.int .i64 o.f0, .int .i64 o.f1, .int .i64 o.f2] 94); rw [← hw_, ← hg_] at HS_; clear HS; have HS := HS_; clear HS_ hw_ hg_; refine (spec_l01In.calls o.f0 (-12) 12 true _ HB0.out).mono ?_; rintro e wc_ ⟨rfl, hb_⟩; replace HS := A0_ (Sp.far HS.out hb_.below); clear hb_ ha0 hx0 hx1 hx2 HB0; have hc1 := (cl_ HS 0 1 rfl).trans rfl; have hc2 := (cl_ HS 0 2 rfl).trans rfl)
      | (go_at_call 64; refine (spec_l01In.calls o.f1 (-12) 12 false _ HB1.out).mono ?_; rintro e wc_ ⟨rfl, hb_⟩; replace HS := A0_ (Sp.far HS.out hb_.below); clear hb_ hc1 hc2 HB1))
     go_ret; (exact ⟨by rw [HF.out]; rfl, HS.out.below⟩)
    | true =>
    (have HB1 := A0_ ((hin o.f1).trans (congrArg some b1)))
    cases b2 : inR o.f2 (-12) 12 with
    | false =>
     (have HB2 := A0_ ((hin o.f2).trans (congrArg some b2))); (have HF := A0_ (hno (by unfold inCb; rw [b0, b1, b2]; rfl))); clear b0 b1 b2 hin hno hnx
     go_wp2_with (first
      | (go_at_call 64; obtain ⟨gx, hg_⟩ : ∃ g_, g_ = (wr).heap.size := ⟨_, rfl⟩; obtain ⟨wx, hw_⟩ : ∃ w_, w_ = (wr).alloc (.cells #[.int .i64 o.f0, .int .i64 o.f1, .int .i64 o.f2] 94) := ⟨_, rfl⟩; (try rw [← hw_]); (try rw [← hg_]); have HS_ := A0_ (Sp.box HS.out #[.int .i64 o.f0, .int .i64 o.f1, .int .i64 o.f2] 94); rw [← hw_, ← hg_] at HS_; clear HS; have HS := HS_; clear HS_ hw_ hg_; refine (spec_l01In.calls o.f0 (-12) 12 true _ HB0.out).mono ?_; rintro e wc_ ⟨rfl, hb_⟩; replace HS := A0_ (Sp.far HS.out hb_.below); clear hb_ ha0 hx0 hx1 hx2 HB0; have hc1 := (cl_ HS 0 1 rfl).trans rfl; have hc2 := (cl_ HS 0 2 rfl).trans rfl)
      | (go_at_call 64; refine (spec_l01In.calls o.f1 (-12) 12 true _ HB1.out).mono ?_; rintro e wc_ ⟨rfl, hb_⟩; replace HS := A0_ (Sp.far HS.out hb_.below); clear hb_ hc1 hc2 HB1; have hc2 := (cl_ HS 0 2 rfl).trans rfl)
      | (go_at_call 64; refine (spec_l01In.calls o.f2 (-12) 12 false _ HB2.out).mono ?_; rintro e wc_ ⟨rfl, hb_⟩; replace HS := A0_ (Sp.far HS.out hb_.below); clear hb_ hc2 HB2))
     go_ret; (exact ⟨by rw [HF.out]; rfl, HS.out.below⟩)
    | true =>
    (have HB2 := A0_ ((hin o.f2).trans (congrArg some b2))); (have hob : inCb o (-12) 12 = true := by unfold inCb; rw [b0, b1, b2]; rfl); (rw [hob, Bool.true_and] at hno hnx); (have HNO := A0_ hno); (have HNX := A0_ hnx); (have HOB := A0_ hob); clear b0 b1 b2 hin hno hnx hob
    go_wp2_with (first
     | (go_at_call 64; obtain ⟨gx, hg_⟩ : ∃ g_, g_ = (wr).heap.size := ⟨_, rfl⟩; obtain ⟨wx, hw_⟩ : ∃ w_, w_ = (wr).alloc (.cells #[.int .i64 o.f0, .int .i64 o.f1, .int .i64 o.f2] 94) := ⟨_, rfl⟩; (try rw [← hw_]); (try rw [← hg_]); have HS_ := A0_ (Sp.box HS.out #[.int .i64 o.f0, .int .i64 o.f1, .int .i64 o.f2] 94); rw [← hw_, ← hg_] at HS_; clear HS; have HS := HS_; clear HS_ hw_ hg_; refine (spec_l01In.calls o.f0 (-12) 12 true _ HB0.out).mono ?_; rintro e wc_ ⟨rfl, hb_⟩; replace HS := A0_ (Sp.far HS.out hb_.below); clear hb_ ha0 hx0 hx1 hx2 HB0; have hc1 := (cl_ HS 0 1 rfl).trans rfl; have hc2 := (cl_ HS 0 2 rfl).trans rfl)
     | (go_at_call 64; refine (spec_l01In.calls o.f1 (-12) 12 true _ HB1.out).mono ?_; rintro e wc_ ⟨rfl, hb_⟩; replace HS := A0_ (Sp.far HS.out hb_.below); clear hb_ hc1 hc2 HB1; have hc2 := (cl_ HS 0 2 rfl).trans rfl)
     | (go_at_call 64; refine (spec_l01In.calls o.f2 (-12) 12 true _ HB2.out).mono ?_; rintro e wc_ ⟨rfl, hb_⟩; replace HS := A0_ (Sp.far HS.out hb_.below); clear hb_ hc2 HB2))
    go_loopg [7] (i + 1) (fun kq v7 w' => ∃ (j : Nat), v7 = .int .i64 (j : Int) ∧ Aside0 (j ≤ i ∧ kq + j = i + 1 ∧ (List.range j).all (fun k => !pairT l0_0 l1 i k) = true) ∧ Aside0 (Sp w [Res.blk gx #[.int .i64 o.f0, .int .i64 o.f1, .int .i64 o.f2] 94, Res.blk ga #[.slice (some adp) l0_0.length c0_0] 26] w'))
    case atStart => exact ⟨0, rfl, ⟨by omega, by omega, rfl⟩, HS⟩
    case round =>
     clear HS; (obtain ⟨j, rfl, HY, HS⟩ := hrel); (obtain ⟨k2, rfl⟩ : ∃ k2, gk = k2 + 1 := ⟨gk - 1, by have := HY.out; omega⟩); (by_cases cj : j < i)
     ·(have cj0 : decide (j < i) = true := decide_eq_true cj); (have r0 : (0 ≤ (j : Int)) = True := eq_true (by omega)); (have r1 : ((j : Int) < (l0_0.length : Int)) = True := eq_true (by have := HCI.out; have := HLN.out; omega)); (have r2 : (j < l0_0.length) = True := eq_true (by have := HCI.out; have := HLN.out; omega)); (have r3 : ((j : Int) < (l1.length : Int)) = True := eq_true (by have := HCI.out; omega)); (have r4 : (j < l1.length) = True := eq_true (by have := HCI.out; omega)); (have HWJ := A0_ (wrap_succ j (by have := HZ.out.1; have := HCI.out; have := HLN.out; omega)))
      have HNJ := A0_ (range_next (fun k => !pairT l0_0 l1 i k) j HY.out.2.2)
      have HBJ := A0_ (fun h => HNO.out (range_no (fun k => !pairT l0_0 l1 i k) i j cj h))
      (have hjl : j < l0_0.length := by have := HCI.out; have := HLN.out; omega); (obtain ⟨ad3, Aj, cj_, e, hy0, hy1, hy2⟩ := at_L3 HR0.out (j : Int) (by omega) (by omega)); (injection e with e); subst e; (have hpl := HZ.out.2.1 _ (pAt_mem l0_0 j hjl)); (have hpr := HPR.out j (HZ.out.2.2 _ (pAt_mem l0_0 j hjl)) HOB.out (HIN.out j cj)); (rw [show rd_L3 l0_0 (j : Int) = pAt l0_0 j from rfl] at hy0 hy1 hy2); (rw [Int.toNat_natCast] at hy0); (obtain ⟨ad4, e, hx0, hx1, hx2⟩ := at_T94 HR1.out (j : Int) (by omega) (by have := HCI.out; omega)); (injection e with e); subst e; (rw [show rd_T94 l1 (j : Int) = oAt l1 j from rfl] at hx0 hx1 hx2); (rw [Int.toNat_natCast] at hx0 hx1 hx2); (have HCJ := A0_ cj); (try dsimp only at HNJ HBJ); (obtain ⟨pj, hpj⟩ : ∃ pj, pj = pAt l0_0 j := ⟨_, rfl⟩); (rw [← hpj] at hy0 hy1 hy2 hpl hpr); (obtain ⟨oj, hoj⟩ : ∃ oj, oj = oAt l1 j := ⟨_, rfl⟩); (rw [← hoj] at hx0 hx1 hx2 hpr); (obtain ⟨K1, m1, hm1, hl1, hK1⟩ := move_at p o HPL.out); (obtain ⟨K2, m2, hm2, hl2, hK2⟩ := move_at pj oj hpl); (obtain ⟨K3, hK3⟩ := (smeet_ev m1 m2 (by rw [hl1]; exact HPL.out) (by rw [hl2]; exact hpl)).rounds); (rw [← hm1, ← hm2] at hpr); (rw [hpr] at hK3); (obtain ⟨r3, hr3⟩ : ∃ r3, r3 = pairT l0_0 l1 i j := ⟨_, rfl⟩); (rw [← hr3] at hK3 HNJ HBJ); (have HK1 := A0_ hK1); (have HK2 := A0_ hK2); (have HK3 := A0_ hK3); (have HJ0 := A0_ hy0); (have HJ1 := A0_ hy1); (have HJ2 := A0_ hy2); (have HO0 := A0_ hx0); (have HO1 := A0_ hx1); (have HO2 := A0_ hx2); clear cj hpj hoj hx0 hx1 hx2 hy0 hy1 hy2 hK1 hK2 hK3 hm1 hm2 hl1 hl2 hpl hpr hr3 hjl; (replace HS := A0_ (show Sp w ([Res.blk gx #[.int .i64 o.f0, .int .i64 o.f1, .int .i64 o.f2] 94, Res.blk ga #[.slice (some adp) l0_0.length c0_0] 26] ++ ([] : List Res)) wr.drew from Sp.drew HS.out)); go_wp2
      refine start_ (n := 18) (S := fun w' => w'.cell? ⟨ga, 0, none⟩ = some (.slice (some adp) l0_0.length c0_0) ∧ w'.cell? ⟨gx, 0, none⟩ = some (.int .i64 o.f0) ∧ w'.cell? ⟨gx, 1, none⟩ = some (.int .i64 o.f1) ∧ w'.cell? ⟨gx, 2, none⟩ = some (.int .i64 o.f2) ∧ w'.cell? (adp.add i) = some (.slice Ai p.length ci_) ∧ w'.cell? (adp.add j) = some (.slice Aj pj.length cj_) ∧ w'.cell? (ado.add (j * 3)) = some (.int .i64 oj.f0) ∧ w'.cell? ⟨(ado.add (j * 3)).block, (ado.add (j * 3)).off + 1, none⟩ = some (.int .i64 oj.f1) ∧ w'.cell? ⟨(ado.add (j * 3)).block, (ado.add (j * 3)).off + 2, none⟩ = some (.int .i64 oj.f2)) (ds := []) #[ff,ff,ff,ff,ff,ff,ff,ff,ff,ff,ff,ff,ff,ff,ff,ff,ff,ff] (by kernel_rfl) rfl rfl (⟨(cl_ HS 1 0 rfl).trans rfl, (cl_ HS 0 0 rfl).trans rfl, (cl_ HS 0 1 rfl).trans rfl, (cl_ HS 0 2 rfl).trans rfl, pw_cell_below HS.out.below HP0.out, pw_cell_below HS.out.below HJ0.out, pw_cell_below HS.out.below HO0.out, pw_cell_below HS.out.below HO1.out, pw_cell_below HS.out.below HO2.out⟩) (fun hHeld => ?_)
      refine with_tabW sclF.tab12 sclF.bits12 (fun HT_ HW_ => ?_)
      (generalize wr.drew = wD at HS hHeld ⊢); (refine on_ 0 (some 52) ?_); (refine tk_ 1 (some 53) ?_); (refine on_ 2 (some 54) ?_); (refine on_ 3 (some 55) ?_); (refine tk_ 4 (some 56) ?_); (refine tk_ 5 (some 57) ?_); (refine on_ 7 (some 59) ?_); (refine tk_ 8 (some 60) ?_); (refine on_ 9 (some 61) ?_); (refine on_ 10 (some 62) ?_); (refine tk_ 11 (some 63) ?_); (refine on_ 12 (some 64) ?_); (refine on_ 13 (some 65) ?_); (refine on_ 14 (some 66) ?_); (refine tk_ 15 (some 67) ?_)
      refine o1_ 6 (some 58) (fun K hK => ?_)
      (refine gs_ Try.func93 #[.slice Ai p.length ci_, .agg #[.int .i64 o.f0, .int .i64 o.f1, .int .i64 o.f2]] ?_); (refine (spec_l09Move.calls K1 Ai ci_ p o.f0 o.f1 o.f2 m1 _ (Kd.C_below HP2.out HS.out.below) HP1.out HK1.out).mono ?_); (rintro e wA11 ⟨vA11, rfl, ho, hb⟩); (refine ⟨_, rfl, ?_⟩); (replace HS := A0_ (Sp.made' HS.out hb ho)); clear hb ho; (obtain ⟨AA11, cA11, rfl⟩ := Sp.slice HS.out (i := 0) rfl)
      refine hK.out _ _ (⟨(cl_ HS 2 0 rfl).trans rfl, (cl_ HS 1 0 rfl).trans rfl, (cl_ HS 1 1 rfl).trans rfl, (cl_ HS 1 2 rfl).trans rfl, pw_cell_below HS.out.below HP0.out, pw_cell_below HS.out.below HJ0.out, pw_cell_below HS.out.below HO0.out, pw_cell_below HS.out.below HO1.out, pw_cell_below HS.out.below HO2.out⟩) (fun hHeld => ?_)
      clear hK K; (refine nm_ (some 58) ?_)
      refine o1_ 16 (some 68) (fun K hK => ?_)
      (refine gs_ Try.func93 #[.slice Aj pj.length cj_, .agg #[.int .i64 oj.f0, .int .i64 oj.f1, .int .i64 oj.f2]] ?_); (refine (spec_l09Move.calls K2 Aj cj_ pj oj.f0 oj.f1 oj.f2 m2 _ (Kd.C_below HJ2.out HS.out.below) HJ1.out HK2.out).mono ?_); (rintro e wA12 ⟨vA12, rfl, ho, hb⟩); (refine ⟨_, rfl, ?_⟩); (replace HS := A0_ (Sp.made' HS.out hb ho)); clear hb ho; (obtain ⟨AA12, cA12, rfl⟩ := Sp.slice HS.out (i := 0) rfl)
      refine hK.out _ _ (⟨(cl_ HS 3 0 rfl).trans rfl, (cl_ HS 2 0 rfl).trans rfl, (cl_ HS 2 1 rfl).trans rfl, (cl_ HS 2 2 rfl).trans rfl, pw_cell_below HS.out.below HP0.out, pw_cell_below HS.out.below HJ0.out, pw_cell_below HS.out.below HO0.out, pw_cell_below HS.out.below HO1.out, pw_cell_below HS.out.below HO2.out⟩) (fun hHeld => ?_)
      clear hK K; (refine nm_ (some 68) ?_)
      refine o1_ 17 (some 69) (fun K hK => ?_)
      (refine gs_ Try.func86 #[.slice AA11 (m1).length cA11, .slice AA12 (m2).length cA12] ?_); (refine (spec_l27Meet.calls K3 AA11 cA11 m1 AA12 cA12 m2 r3 _ (Sp.reads HS.out (i := 1) rfl).2.2 (Sp.reads HS.out (i := 1) rfl).2.1 (Sp.reads HS.out (i := 0) rfl).2.2 (Sp.reads HS.out (i := 0) rfl).2.1 HK3.out).mono ?_); (rintro e wA13 ⟨rfl, hb⟩); (refine ⟨_, rfl, ?_⟩); (replace HS := A0_ (Sp.far HS.out hb)); clear hb
      refine hK.out _ _ (⟨(cl_ HS 3 0 rfl).trans rfl, (cl_ HS 2 0 rfl).trans rfl, (cl_ HS 2 1 rfl).trans rfl, (cl_ HS 2 2 rfl).trans rfl, pw_cell_below HS.out.below HP0.out, pw_cell_below HS.out.below HJ0.out, pw_cell_below HS.out.below HO0.out, pw_cell_below HS.out.below HO1.out, pw_cell_below HS.out.below HO2.out⟩) (fun hHeld => ?_)
      clear hK K; (refine nm_ (some 69) ?_); (refine dn_ ?_); (replace HS := A0_ (Sp.arr (pre := [Res.row k94 94 w.heap.size (.slice AA12 (m2).length cA12) (m2), Res.row k94 94 w.heap.size (.slice AA11 (m1).length cA11) (m1), Res.blk gx #[.int .i64 o.f0, .int .i64 o.f1, .int .i64 o.f2] 94, Res.blk ga #[.slice (some adp) l0_0.length c0_0] 26]) (pre' := [Res.blk gx #[.int .i64 o.f0, .int .i64 o.f1, .int .i64 o.f2] 94, Res.blk ga #[.slice (some adp) l0_0.length c0_0] 26, Res.row k94 94 w.heap.size (.slice AA11 (m1).length cA11) (m1), Res.row k94 94 w.heap.size (.slice AA12 (m2).length cA12) (m2)]) (rest := ([] : List Res)) [2, 3, 1, 0] HS.out rfl rfl))
      cases r3 with
      | true =>
       (have HF := A0_ (HBJ.out rfl)); clear HNJ HBJ; go_wp2; go_ret; (exact ⟨by rw [HF.out]; rfl, HS.out.below⟩)
      | false =>
       (have HN := A0_ (HNJ.out rfl)); clear HNJ HBJ; go_wp2; (replace HS := A0_ (Sp.out (Sp.out HS.out 3) 2)); (go_roundg k2)
       case measure => omega
       case rel =>
        (rw [HWJ.out]); (exact ⟨j + 1, rfl, ⟨by have := HCJ.out; omega, by have := HY.out; omega, HN.out⟩, HS⟩)
     ·(have cj0 : decide (j < i) = false := decide_eq_false cj); (have cj1 : (j < i) = False := eq_false cj); (have hj : j = i := by have := HY.out; omega); (have HN := A0_ (HNX.out (hj ▸ HY.out.2.2))); (have HS_ := A0_ (Sp.tail HS.out)); clear HS cj hj; (have HS := HS_); clear HS_; go_wp2; (go_roundg k1)
      case measure => omega
      case rel =>
       (rw [HW.out]); (exact ⟨i + 1, rfl, ⟨by have := HCI.out; omega, by have := HX.out; omega, HN.out⟩, HS⟩)
   ·(have ci0 : decide (i < l1.length) = false := decide_eq_false ci); (have ci1 : (i < l1.length) = False := eq_false ci); (have hi : i = l1.length := by have := HX.out; omega); (have HF := A0_ (HAE.out.trans (hi ▸ HX.out.2.2))); clear ci hi; go_wp2; go_ret; (exact ⟨by rw [HF.out]; rfl, HS.out.below⟩)
section
attribute [local go_sem] max2_int min2_int max_two min_two max_three min_three max_four min_four
def spec_l27After.l0 : Nat → List (S94) → Int → List (S94) → Int → Option ((List (S94)))
  | 0, _, _, _, _ => none
  | k + 1, x0, x1, x5, x6 => if x6 < (x0.length : Int) then (if 0 ≤ (IntKind.u64.wrap (x6)) then (if (Go.bits .and .i64 (shr .i64 (wrap64 (Int.tdiv x1 6)) (IntKind.u64.wrap (x6))) 1) = 1 then (if 0 ≤ x6 then ((spec_l27Vector.f (Int.tmod x1 6)).bind fun bt439 => ((spec_l09Add.f ((rd_T94 x0 x6).f0) ((rd_T94 x0 x6).f1) ((rd_T94 x0 x6).f2) bt439.1 bt439.2.1 bt439.2.2).bind fun bt442 => (if x5.length < 5864062014805 then (spec_l27After.l0 k x0 x1 (x5 ++ [(⟨bt442.1, bt442.2.1, bt442.2.2⟩ : S94)]) (wrap64 (x6 + 1))) else (none)))) else (none)) else (if 0 ≤ x6 then (if x5.length < 5864062014805 then (spec_l27After.l0 k x0 x1 (x5 ++ [(⟨(rd_T94 x0 x6).f0, (rd_T94 x0 x6).f1, (rd_T94 x0 x6).f2⟩ : S94)]) (wrap64 (x6 + 1))) else (none)) else (none))) else (none)) else (some x5)
def spec_l27After.f (k : Nat) (l0 : List (S94)) (a1 : Int) : Option ((List (S94))) := spec_l27After.l0 k l0 a1 (([] : List (S94))) 0
def spec_l27After.T6 : Bool × List (List Nat × List Nat) := (true, [([], []), ([], []), ([], []), ([1, 2], [1, 2]), ([3], [3]), ([], []), ([5], [5]), ([6], [6]), ([4, 7, 7], [4, 7]), ([8], [8]), ([0, 9, 8], [0, 9]), ([10, 10, 0, 1, 2, 3, 4, 5, 6, 7, 8, 9, 10], [0, 10])])
def spec_l27After.B6 : List Nat := [0, 0, 0, 6, 14, 0, 32, 96, 254, 510, 1023, 2047]
theorem spec_l27After.tab6 : rtab .any (opsOf Try.f59 6) = spec_l27After.T6 := by kernel_rfl
theorem spec_l27After.bits6 : waitsOk spec_l27After.T6.2 spec_l27After.B6 = true := by kernel_rfl
set_option maxHeartbeats 8000000 in
set_option maxRecDepth 100000 in
theorem spec_l27After.calls (k : Nat) (A0 : Option Addr) (c0 : Nat) (l0 : List (S94)) (a1 : Int) (r : List (S94)) (w : World) (hr0 : Kd.C k94 w A0 l0.length l0) (hc0 : l0.length ≤ c0) (h : spec_l27After.f k l0 a1 = some r) :
    Calls Try.prog 59 #[.slice A0 l0.length c0, .int .i64 a1] w fun e w' => ∃ v0_ : Value, e = .returned (v0_) ∧ Kd.R k94 94 w' w.heap.size (fun _ => True) v0_ r ∧ Below w.heap.size w w' := by
 (have hu94 := Try.underlying94); (have HR0 := A0_ hr0); (have HC0 := A0_ hc0); clear hr0 hc0; (have HB := A0_ (Below.refl w.heap.size w)); (have H : (spec_l27After.l0 k l0 a1 (([] : List (S94))) 0) = some r := h); clear h; (obtain ⟨y435, hy435⟩ : ∃ y_ : List (S94), y_ = (([] : List (S94))) := ⟨_, rfl⟩); (replace H : (spec_l27After.l0 k l0 a1 y435 0) = some r := by first | (rw [hy435]; with_reducible exact H) | (have H2_ := (Option.bind_some _ _).symm.trans H; rw [hy435]; with_reducible exact H2_) | (have H2_ := (Option.bind_some _ _).symm.trans H; with_reducible exact H2_) | with_reducible exact H | (rw [hy435]; exact H) | exact H); (have Ny435 := A0_ hy435); clear hy435; (have H' := A0_ H); clear H; (go_enter Try.func59, Try.ntmps59)
 go_wp2_with (first | ((with_reducible refine gate_dst (N := 7) rfl ?_); refine Kd.R_lit k94 _ 94 ?hg (N := 7) ?hd (xs := ([] : List (S94))) (inner := []) (ok := fun _ => True) (okp := fun _ => True) ?hr ?hp (fun _ hk => hk) trivial (Below.refl _ _) (Nat.le_refl _) (by simp) ?_; (case hd => rfl); (case hg => rfl); (case hr => first | (go_simp; done) | (go_simp; rfl)); (case hp => exact (Reps.none _ _)); intro v436 w3 ho4 hb hg_ hnew_; clear hg_ hnew_; (first | rw [← Ny435.out] at ho4 | (simp only [Int.reduceToNat] at ho4; rw [← Ny435.out] at ho4)); have n0_ := A0_ (Kd.R_lower ho4 (below_size bw_)); have n1_ := A0_ (below_step bw_ hb); clear HB; have HO437 := n0_; have HB := n1_; clear n0_ n1_; clear hb ho4))
 go_loopg [5, 6] k (fun kq v5 v6 w' => ∃ (x5_1 : List (S94)) (x6_1 : Int), v6 = .int .i64 x6_1 ∧ Aside0 (spec_l27After.l0 kq l0 a1 x5_1 x6_1 = some r) ∧ Aside0 (kq ≤ k) ∧ Aside0 (Kd.R k94 94 w' w.heap.size (fun _ => True) v5 x5_1) ∧ Aside0 (Below w.heap.size w w'))
 case atStart => exact ⟨(y435), (0), (by first | rfl | (simp; done) | (simp [*]; done)), H', ⟨Nat.le_refl _⟩, ⟨by (with_reducible repeat (first | apply Ra_ | apply Rn_ | apply Rd_)); exact HO437.out⟩, ⟨by repeat (first | (with_reducible first | exact HB.out | apply ba_ | apply bn_ | apply bd_) | exact HB.out)⟩⟩
 case round =>
  clear H'; (try clear p2); (obtain ⟨x5_1, x6_1, rfl, HA, HK1, HO_5, HB⟩ := hrel)
  cases gk with
  | zero => exact absurd HA.out (by simp [spec_l27After.l0])
  | succ k1 =>
   (have H := HA.out); clear HA; (simp only [spec_l27After.l0] at H); (by_cases c5 : x6_1 < (l0.length : Int))
   ·(rw [if_pos c5] at H); (have c5b0 : decide (x6_1 < (l0.length : Int)) = true := decide_eq_true c5); clear c5; (obtain ⟨ji6, hji6⟩ : ∃ j_ : Int, (IntKind.u64.wrap (x6_1)) = j_ := ⟨_, rfl⟩)
    replace H : (if 0 ≤ (ji6) then (if (Go.bits .and .i64 (shr .i64 (wrap64 (Int.tdiv a1 6)) (ji6)) 1) = 1 then (if 0 ≤ x6_1 then ((spec_l27Vector.f (Int.tmod a1 6)).bind fun bt439 => ((spec_l09Add.f ((rd_T94 l0 x6_1).f0) ((rd_T94 l0 x6_1).f1) ((rd_T94 l0 x6_1).f2) bt439.1 bt439.2.1 bt439.2.2).bind fun bt442 => (if x5_1.length < 5864062014805 then (spec_l27After.l0 k1 l0 a1 (x5_1 ++ [(⟨bt442.1, bt442.2.1, bt442.2.2⟩ : S94)]) (wrap64 (x6_1 + 1))) else (none)))) else (none)) else (if 0 ≤ x6_1 then (if x5_1.length < 5864062014805 then (spec_l27After.l0 k1 l0 a1 (x5_1 ++ [(⟨(rd_T94 l0 x6_1).f0, (rd_T94 l0 x6_1).f1, (rd_T94 l0 x6_1).f2⟩ : S94)]) (wrap64 (x6_1 + 1))) else (none)) else (none))) else (none)) = some r := by first | (rw [hji6] at H; exact H) | (simp only [hji6] at H ⊢; exact H)
    (by_cases c7 : 0 ≤ (ji6))
    ·(rw [if_pos c7] at H); (have c7b0 := eq_true c7); (have c7b1 : decide (0 ≤ (ji6)) = true := decide_eq_true c7); clear c7; (obtain ⟨ji8, hji8⟩ : ∃ j_ : Int, (shr .i64 (wrap64 (Int.tdiv a1 6)) (ji6)) = j_ := ⟨_, rfl⟩)
     replace H : (if (Go.bits .and .i64 (ji8) 1) = 1 then (if 0 ≤ x6_1 then ((spec_l27Vector.f (Int.tmod a1 6)).bind fun bt439 => ((spec_l09Add.f ((rd_T94 l0 x6_1).f0) ((rd_T94 l0 x6_1).f1) ((rd_T94 l0 x6_1).f2) bt439.1 bt439.2.1 bt439.2.2).bind fun bt442 => (if x5_1.length < 5864062014805 then (spec_l27After.l0 k1 l0 a1 (x5_1 ++ [(⟨bt442.1, bt442.2.1, bt442.2.2⟩ : S94)]) (wrap64 (x6_1 + 1))) else (none)))) else (none)) else (if 0 ≤ x6_1 then (if x5_1.length < 5864062014805 then (spec_l27After.l0 k1 l0 a1 (x5_1 ++ [(⟨(rd_T94 l0 x6_1).f0, (rd_T94 l0 x6_1).f1, (rd_T94 l0 x6_1).f2⟩ : S94)]) (wrap64 (x6_1 + 1))) else (none)) else (none))) = some r := by first | (rw [hji8] at H; exact H) | (simp only [hji8] at H ⊢; exact H)
     (have hji8_ : ((wrap64 (Int.tdiv a1 6)) / 2 ^ min (ji6).toNat 64) = ji8 := hji8); (have hji8z : (ji6) ≤ 64 → ((wrap64 (Int.tdiv a1 6)) / 2 ^ (ji6).toNat) = ji8 := shr_small hji8); (by_cases c9 : (Go.bits .and .i64 (ji8) 1) = 1)
     ·(rw [if_pos c9] at H); (have c9b0 : ((Go.bits .and .i64 (ji8) 1) == 1) = true := beq_iff_eq.mpr c9); (have c9b1 : ((Go.bits .and .i64 (ji8) 1) != 1) = false := bne_eq_false_iff_eq.mpr c9); clear c9; (by_cases c10 : 0 ≤ x6_1)
      ·(rw [if_pos c10] at H); (have c10b0 : decide (0 ≤ x6_1) = true := decide_eq_true c10); clear c10; (replace H := Option.bind_eq_some_iff.mp H); (obtain ⟨⟨t439, t440, t441⟩, A110, H⟩ := H); (try dsimp only at H); (have A11 := A0_ A110); clear A110; (replace H := Option.bind_eq_some_iff.mp H); (obtain ⟨⟨t442, t443, t444⟩, A120, H⟩ := H); (try dsimp only at H); (have A12 := A0_ A120); clear A120; (by_cases c13 : x5_1.length < 5864062014805)
       ·(rw [if_pos c13] at H); (have LMc13 := A0_ c13); clear c13; (obtain ⟨y445, hy445⟩ : ∃ y_ : List (S94), y_ = (x5_1 ++ [(⟨t442, t443, t444⟩ : S94)]) := ⟨_, rfl⟩); (replace H : (spec_l27After.l0 k1 l0 a1 y445 (wrap64 (x6_1 + 1))) = some r := by first | (rw [hy445]; with_reducible exact H) | (have H2_ := (Option.bind_some _ _).symm.trans H; rw [hy445]; with_reducible exact H2_) | (have H2_ := (Option.bind_some _ _).symm.trans H; with_reducible exact H2_) | with_reducible exact H | (rw [hy445]; exact H) | exact H); (have Ny445 := A0_ hy445); clear hy445; (have H' := A0_ H); clear H; (try go_wp2); (have n0_ := A0_ (Kd.R_drew HO_5.out)); (have n1_ := A0_ (below_drew1 HB.out)); clear HO_5; clear HB; (have HO_5 := n0_); (have HB := n1_); clear n0_ n1_; (have p438 : 0 ≤ (x6_1 : Int) := of_decide_eq_true as_); (have q438 : x6_1 < (l0.length : Int) := of_decide_eq_true as_); (obtain ⟨ad438, e438, hx438_0, hx438_1, hx438_2⟩ := at_T94 HR0.out x6_1 p438 q438); (have hw438_2 := hx438_2); (have hw438_1 := hx438_1); (have hw438_0 := hx438_0); (cases e438); (replace hx438_0 := (HB.out.cell (World.block_lt_of_cell? w _ hx438_0)).trans hx438_0); (replace hx438_1 := (HB.out.cell (World.block_lt_of_cell? w _ hx438_1)).trans hx438_1); (replace hx438_2 := (HB.out.cell (World.block_lt_of_cell? w _ hx438_2)).trans hx438_2); (replace p438 := eq_true p438); (replace q438 := eq_true q438)
        refine start_ (n := 12) (S := fun w' => w'.cell? (ad438.add ((x6_1).toNat * 3)) = some (.int .i64 ((rd_T94 l0 x6_1).f0)) ∧ w'.cell? ⟨(ad438.add ((x6_1).toNat * 3)).block, (ad438.add ((x6_1).toNat * 3)).off + 1, none⟩ = some (.int .i64 ((rd_T94 l0 x6_1).f1)) ∧ w'.cell? ⟨(ad438.add ((x6_1).toNat * 3)).block, (ad438.add ((x6_1).toNat * 3)).off + 2, none⟩ = some (.int .i64 ((rd_T94 l0 x6_1).f2))) (ds := []) #[ff,ff,ff,ff,ff,ff,ff,ff,ff,ff,ff,ff] (by kernel_rfl) rfl rfl ⟨((HB.out.cell (World.block_lt_of_cell? w _ hw438_0)).trans hw438_0), ((HB.out.cell (World.block_lt_of_cell? w _ hw438_1)).trans hw438_1), ((HB.out.cell (World.block_lt_of_cell? w _ hw438_2)).trans hw438_2)⟩ (fun hHeld => ?_); refine with_tabW spec_l27After.tab6 spec_l27After.bits6 (fun HT_ HW_ => ?_)
        (generalize wr.drew = w14 at HO_5 HB hx438_0 hx438_1 hx438_2 hHeld ⊢); (refine on_ 0 (some 21) ?_); (refine on_ 1 (some 22) ?_); (refine on_ 2 (some 23) ?_); (refine on_ 3 (some 24) ?_); (refine on_ 5 (some 26) ?_); (refine on_ 6 (some 27) ?_); (refine tk_ 4 (some 25) ?_)
        refine o1_ 7 (some 28) (fun K hK => ?_)
        (refine gs_ Try.func90 #[.int .i64 (Int.tmod a1 6)] ?_); (with_reducible refine (spec_l27Vector.calls (Int.tmod a1 6) t439 t440 t441 _ A11.out).mono ?_); (rintro e w15 ⟨rfl, hb⟩); (refine ⟨_, rfl, ?_⟩); (have n0_ := A0_ (Kd.R_below (by (with_reducible repeat (first | apply Ra_ | apply Rn_ | apply Rd_)); exact HO_5.out) hb)); (have n1_ := A0_ (below_step bw_ hb)); clear HO_5; clear HB; (have HO_5 := n0_); (have HB := n1_); clear n0_ n1_; ((try clear hb)); ((try clear hb2)); ((try clear hk)); ((try clear hi))
        refine hK.out _ _ ⟨((HB.out.cell (World.block_lt_of_cell? w _ hw438_0)).trans hw438_0), ((HB.out.cell (World.block_lt_of_cell? w _ hw438_1)).trans hw438_1), ((HB.out.cell (World.block_lt_of_cell? w _ hw438_2)).trans hw438_2)⟩ (fun hHeld => ?_)
        clear hK K; (refine nm_ (some 28) ?_)
        refine o1_ 8 (some 29) (fun K hK => ?_)
        (refine gs_ Try.func89 #[.agg #[.int .i64 ((rd_T94 l0 x6_1).f0), .int .i64 ((rd_T94 l0 x6_1).f1), .int .i64 ((rd_T94 l0 x6_1).f2)], .agg #[.int .i64 t439, .int .i64 t440, .int .i64 t441]] ?_); (with_reducible refine (spec_l09Add.calls ((rd_T94 l0 x6_1).f0) ((rd_T94 l0 x6_1).f1) ((rd_T94 l0 x6_1).f2) t439 t440 t441 t442 t443 t444 _ A12.out).mono ?_); (rintro e w16 ⟨rfl, hb⟩); (refine ⟨_, rfl, ?_⟩); (have n0_ := A0_ (Kd.R_below (by (with_reducible repeat (first | apply Ra_ | apply Rn_ | apply Rd_)); exact HO_5.out) hb)); (have n1_ := A0_ (below_step bw_ hb)); clear HO_5; clear HB; (have HO_5 := n0_); (have HB := n1_); clear n0_ n1_; ((try clear hb)); ((try clear hb2)); ((try clear hk)); ((try clear hi))
        refine hK.out _ _ ⟨((HB.out.cell (World.block_lt_of_cell? w _ hw438_0)).trans hw438_0), ((HB.out.cell (World.block_lt_of_cell? w _ hw438_1)).trans hw438_1), ((HB.out.cell (World.block_lt_of_cell? w _ hw438_2)).trans hw438_2)⟩ (fun hHeld => ?_)
        clear hK K; (refine nm_ (some 29) ?_)
        refine o1_ 9 (some 30) (fun K hK => ?_)
        (refine value_ (w1 := ?_) (v := ?_) (by rfl) rfl ?_ ?_); (rotate_left 2)
        ·go_simp; (constructor)
         ·rfl
         ·rfl
        refine hK.out _ _ ⟨(World.cell?_alloc_lt _ _ _ (World.block_lt_of_cell? _ _ (((HB.out.cell (World.block_lt_of_cell? w _ hw438_0)).trans hw438_0)))).trans (((HB.out.cell (World.block_lt_of_cell? w _ hw438_0)).trans hw438_0)), (World.cell?_alloc_lt _ _ _ (World.block_lt_of_cell? _ _ (((HB.out.cell (World.block_lt_of_cell? w _ hw438_1)).trans hw438_1)))).trans (((HB.out.cell (World.block_lt_of_cell? w _ hw438_1)).trans hw438_1)), (World.cell?_alloc_lt _ _ _ (World.block_lt_of_cell? _ _ (((HB.out.cell (World.block_lt_of_cell? w _ hw438_2)).trans hw438_2)))).trans (((HB.out.cell (World.block_lt_of_cell? w _ hw438_2)).trans hw438_2))⟩ (fun hHeld => ?_)
        clear hK K; (refine nm_ (some 30) ?_)
        refine o1_ 10 (some 31) (fun K hK => ?_)
        refine Kd.R_append_step k94 (w0 := w) w.heap.size (by rfl) (.tmp 21) (.tmp 30) 35 94 (.agg #[(.int .i64 0), (.int .i64 0), (.int .i64 0)]) 24 rfl Try.underlying35 info94 rfl (by decide) (by omega) u5 x5_1 (⟨t442, t443, t444⟩ : S94) [.int .i64 t442, .int .i64 t443, .int .i64 t444] (fun _ => True) (fun _ => False) rfl rfl ?aP (fun _ hk => hk.elim) ?aF ?aO ?aB ?aS ?aL ?_
        ((case aP => exact k94_mkM _ _ _ (⟨t442, t443, t444⟩ : S94))); ((case aB => exact bw_))
        (case aF => exact (fun _ _ => trivial))
        ((case aO => exact (by (with_reducible repeat (first | apply Ra_ | apply Rn_ | apply Rd_)); exact HO_5.out))); ((case aS => exact (below_size bw_))); ((case aL => have := LMc13.out; omega)); intro v446 w17 ho hb hg hat; (rw [← Ny445.out] at ho); (have n0_ := A0_ (hb)); (have n1_ := A0_ (ho)); clear HB; clear HO_5; (have HB := n0_); (have HO447 := n1_); clear n0_ n1_; clear ho hb hg hat
        refine hK.out _ _ ⟨((HB.out.cell (World.block_lt_of_cell? w _ hw438_0)).trans hw438_0), ((HB.out.cell (World.block_lt_of_cell? w _ hw438_1)).trans hw438_1), ((HB.out.cell (World.block_lt_of_cell? w _ hw438_2)).trans hw438_2)⟩ (fun hHeld => ?_)
        clear hK K; (refine nm_ (some 31) ?_); (refine on_ 11 (some 5) ?_); (refine dn_ ?_); (try go_wp2); (go_roundg k1)
        case measure => have := HK1.out; omega
        case rel => exact ⟨(y445), (wrap64 (x6_1 + 1)), (by first | rfl | (simp; done) | (simp [*]; done)), H', ⟨by have := HK1.out; omega⟩, ⟨by (with_reducible repeat (first | apply Ra_ | apply Rn_ | apply Rd_)); exact HO447.out⟩, ⟨by repeat (first | (with_reducible first | exact HB.out | apply ba_ | apply bn_ | apply bd_) | exact HB.out)⟩⟩
       ·(rw [if_neg c13] at H); (exact absurd H (by simp))
      ·(rw [if_neg c10] at H); (exact absurd H (by simp))
     ·(rw [if_neg c9] at H); (have c9b0 : ((Go.bits .and .i64 (ji8) 1) == 1) = false := beq_eq_false_iff_ne.mpr c9); (have c9b1 : ((Go.bits .and .i64 (ji8) 1) != 1) = true := bne_iff_ne.mpr c9); (by_cases c18 : 0 ≤ x6_1)
      ·(rw [if_pos c18] at H); (have c18b0 : decide (0 ≤ x6_1) = true := decide_eq_true c18); clear c18; (by_cases c19 : x5_1.length < 5864062014805)
       ·(rw [if_pos c19] at H); (have LMc19 := A0_ c19); clear c19; (obtain ⟨y449, hy449⟩ : ∃ y_ : List (S94), y_ = (x5_1 ++ [(⟨(rd_T94 l0 x6_1).f0, (rd_T94 l0 x6_1).f1, (rd_T94 l0 x6_1).f2⟩ : S94)]) := ⟨_, rfl⟩); (replace H : (spec_l27After.l0 k1 l0 a1 y449 (wrap64 (x6_1 + 1))) = some r := by first | (rw [hy449]; with_reducible exact H) | (have H2_ := (Option.bind_some _ _).symm.trans H; rw [hy449]; with_reducible exact H2_) | (have H2_ := (Option.bind_some _ _).symm.trans H; with_reducible exact H2_) | with_reducible exact H | (rw [hy449]; exact H) | exact H); (have Ny449 := A0_ hy449); clear hy449; (have H' := A0_ H); clear H; (have p448 : 0 ≤ (x6_1 : Int) := of_decide_eq_true as_); (have q448 : x6_1 < (l0.length : Int) := of_decide_eq_true as_); (obtain ⟨ad448, e448, hx448_0, hx448_1, hx448_2⟩ := at_T94 HR0.out x6_1 p448 q448); (cases e448); (replace hx448_0 := (HB.out.cell (World.block_lt_of_cell? w _ hx448_0)).trans hx448_0); (replace hx448_1 := (HB.out.cell (World.block_lt_of_cell? w _ hx448_1)).trans hx448_1); (replace hx448_2 := (HB.out.cell (World.block_lt_of_cell? w _ hx448_2)).trans hx448_2); (replace p448 := eq_true p448); (replace q448 := eq_true q448)
        go_wp2_with (first | ((with_reducible refine gate_builtin (b := .append) (xs := #[.tmp 32, .tmp 37]) rfl ?_); at_builtin; refine Kd.R_append k94 (w0 := w) w.heap.size rfl (.tmp 32) (.tmp 37) 35 94 (.agg #[(.int .i64 0), (.int .i64 0), (.int .i64 0)]) 24 rfl Try.underlying35 info94 rfl (by decide) (by omega) u5 x5_1 (⟨(rd_T94 l0 x6_1).f0, (rd_T94 l0 x6_1).f1, (rd_T94 l0 x6_1).f2⟩ : S94) [.int .i64 ((rd_T94 l0 x6_1).f0), .int .i64 ((rd_T94 l0 x6_1).f1), .int .i64 ((rd_T94 l0 x6_1).f2)] (fun _ => True) (fun _ => False) rfl rfl ?aP (fun _ hk => hk.elim) ?aF ?aO ?aB ?aS ?aL ?_; (case aP => exact k94_mkM _ _ _ (⟨(rd_T94 l0 x6_1).f0, (rd_T94 l0 x6_1).f1, (rd_T94 l0 x6_1).f2⟩ : S94)); (case aB => exact bw_); (case aF => exact (fun _ _ => trivial)); (case aO => exact (by (with_reducible repeat (first | apply Ra_ | apply Rn_ | apply Rd_)); exact HO_5.out)); (case aS => exact (below_size bw_)); (case aL => have := LMc19.out; omega); intro v450 w20 ho hb hg hat; rw [← Ny449.out] at ho; have n0_ := A0_ (hb); have n1_ := A0_ (ho); clear HB; clear HO_5; have HB := n0_; have HO451 := n1_; clear n0_ n1_; clear ho hb hg hat))
        (go_roundg k1)
        case measure => have := HK1.out; omega
        case rel => exact ⟨(y449), (wrap64 (x6_1 + 1)), (by first | rfl | (simp; done) | (simp [*]; done)), H', ⟨by have := HK1.out; omega⟩, ⟨by (with_reducible repeat (first | apply Ra_ | apply Rn_ | apply Rd_)); exact HO451.out⟩, ⟨by repeat (first | (with_reducible first | exact HB.out | apply ba_ | apply bn_ | apply bd_) | exact HB.out)⟩⟩
       ·(rw [if_neg c19] at H); (exact absurd H (by simp))
      ·(rw [if_neg c18] at H); (exact absurd H (by simp))
    ·(rw [if_neg c7] at H); (exact absurd H (by simp))
   ·(rw [if_neg c5] at H); (have c5b0 : decide (x6_1 < (l0.length : Int)) = false := decide_eq_false c5); clear c5; (obtain rfl := Option.some.inj H); go_wp2; go_ret; (exact ⟨_, by first | rfl | (simp [errW_none, errW_some] <;> rfl) | (simp [*, errW_none, errW_some] <;> rfl), by (with_reducible repeat (first | apply Ra_ | apply Rn_ | apply Rd_)); exact HO_5.out, bx_⟩)
end
section
attribute [local go_sem] max2_int min2_int max_two min_two max_three min_three max_four min_four
def spec_l27Possible.j0 : Nat → List (S94) → Int → Bool → List (List (S94)) → Option (Bool)
  | 0, _, _, _, _ => none
  | k + 1, x1, x2, x23, x411000 => if x23 = true then (some false) else ((spec_l27After.f k x1 x2).bind fun t412 => ((spec_l27Clear.f k x411000 t412).bind fun t415 => (some t415)))
def spec_l27Possible.f (k : Nat) (l0_0 : List (List (S94))) (l1 : List (S94)) (a2 : Int) : Option (Bool) := if 0 ≤ (IntKind.u64.wrap ((l0_0.length : Int))) then ((spec_l01In.f a2 6 (wrap64 ((shl .i64 6 (IntKind.u64.wrap ((l0_0.length : Int)))) - 1))).bind fun t411 => (if t411 = true then (spec_l27Possible.j0 k l1 a2 ((Int.tmod (wrap64 (Int.tdiv a2 6)) 2) == 1) l0_0) else (spec_l27Possible.j0 k l1 a2 true l0_0))) else (none)
def possF.T4 : Bool × List (List Nat × List Nat) := (true, [([], []), ([], []), ([], []), ([1, 2], [1, 2]), ([0, 3, 3], [0, 3]), ([4, 4, 0, 1, 2, 3, 4], [4])])
def possF.B4 : List Nat := [0, 0, 0, 6, 15, 31]
theorem possF.tab4 : rtab .any (opsOf Try.f58 4) = possF.T4 := by kernel_rfl
theorem possF.bits4 : waitsOk possF.T4.2 possF.B4 = true := by kernel_rfl
set_option maxHeartbeats 8000000 in
set_option maxRecDepth 100000 in
theorem spec_l27Possible.calls (k : Nat) (A0_0 : Option Addr) (c0_0 : Nat) (l0_0 : List (List (S94))) (A1 : Option Addr) (c1 : Nat) (l1 : List (S94)) (a2 : Int) (r : Bool) (w : World) (hr0_0 : Kd.C (Kd.slice 69 k94) w A0_0 l0_0.length l0_0) (hc0_0 : l0_0.length ≤ c0_0) (hr1 : Kd.C k94 w A1 l1.length l1) (hc1 : l1.length ≤ c1) (h : spec_l27Possible.f k l0_0 l1 a2 = some r) :
    Calls Try.prog 58 #[.agg #[.slice A0_0 l0_0.length c0_0], .slice A1 l1.length c1, .int .i64 a2] w fun e w' => e = .returned (.bool r) ∧ Below w.heap.size w w' := by
 (have hu32 := Try.underlying26); (have HS := A0_ (Sp.start w)); (have HP := A0_ hr0_0); (have HCP := A0_ hc0_0); (have HO := A0_ hr1); (have HCO := A0_ hc1); clear hr0_0 hc0_0 hr1 hc1; (unfold spec_l27Possible.f at h); (by_cases c8 : 0 ≤ IntKind.u64.wrap (l0_0.length : Int))
 ·(rw [if_pos c8] at h); (obtain ⟨t, A10, H⟩ := Option.bind_eq_some_iff.mp h); (obtain ⟨ji9, hji8⟩ : ∃ j, shl .i64 6 (IntKind.u64.wrap (l0_0.length : Int)) = j := ⟨_, rfl⟩); (rw [hji8] at A10); (have hji9 : wrap64 (6 * 2 ^ min (IntKind.u64.wrap (l0_0.length : Int)).toNat 64) = ji9 := (i64_w _).symm.trans hji8); (have HIN := A0_ A10); clear h A10 c8 hji8
  have fin : ∀ k x23, spec_l27Possible.j0 k l1 a2 x23 l0_0 = some r → (x23 = true ∧ r = false) ∨ (x23 = false ∧ ∃ K nx, spec_l27After.f K l1 a2 = some nx ∧ spec_l27Clear.f K l0_0 nx = some r) := by
   intro k x23 h
   cases k with
   | zero => cases h
   | succ k =>
    cases x23 with
    | true =>
     have h2 : (if true = true then some false else ((spec_l27After.f k l1 a2).bind fun t412 => ((spec_l27Clear.f k l0_0 t412).bind fun t415 => (some t415)))) = some r := h
     (rw [if_pos rfl] at h2); (exact .inl ⟨rfl, (Option.some.inj h2).symm⟩)
    | false =>
     have h2 : (if false = true then some false else ((spec_l27After.f k l1 a2).bind fun t412 => ((spec_l27Clear.f k l0_0 t412).bind fun t415 => (some t415)))) = some r := h
     (rw [if_neg (by simp)] at h2); (obtain ⟨nx, g1, h3⟩ := Option.bind_eq_some_iff.mp h2); (obtain ⟨b, g2, h4⟩ := Option.bind_eq_some_iff.mp h3); (obtain rfl := Option.some.inj h4); (exact .inr ⟨rfl, k, nx, g1, g2⟩)
  cases t with
  | false =>
   (rw [if_neg (by simp)] at H)
   have hr : r = false := by
    (rcases fin _ _ H with h | h)
    ·(exact h.2)
    ·(cases h.1)
   subst hr; clear fin H; (go_enter Try.func58, Try.ntmps58)
   go_wp2_with (first
    | ((with_reducible refine gate_dst (N := 3) rfl ?_); refine be_ (N := 3) (cs := #[.slice A0_0 l0_0.length c0_0]) (t := 26) ?_; intro ga hgb_ wb_ hcb_ hbb_; replace HS := A0_ (Sp.boxed HS.out hgb_ hcb_ hbb_); clear hgb_ hcb_ hbb_; have ha0 := (cl_ HS 0 0 rfl).trans rfl)
    | (go_at_call 64; refine (spec_l01In.calls a2 6 (wrap64 (ji9 - 1)) false _ HIN.out).mono ?_; rintro e wc_ ⟨rfl, hb_⟩; replace HS := A0_ (Sp.far HS.out hb_.below); clear hb_ ha0))
   go_ret; (exact ⟨rfl, HS.out.below⟩)
  | true =>
   (rw [if_pos rfl] at H)
   cases hb : ((wrap64 (a2.tdiv 6)).tmod 2 == 1) with
   | true =>
    (rw [hb] at H)
    have hr : r = false := by
     (rcases fin _ _ H with h | h)
     ·(exact h.2)
     ·(cases h.1)
    subst hr; (have hb2 : (wrap64 (a2.tdiv 6)).tmod 2 = 1 := by simpa using hb); clear fin H hb; (go_enter Try.func58, Try.ntmps58)
    go_wp2_with (first
     | ((with_reducible refine gate_dst (N := 3) rfl ?_); refine be_ (N := 3) (cs := #[.slice A0_0 l0_0.length c0_0]) (t := 26) ?_; intro ga hgb_ wb_ hcb_ hbb_; replace HS := A0_ (Sp.boxed HS.out hgb_ hcb_ hbb_); clear hgb_ hcb_ hbb_; have ha0 := (cl_ HS 0 0 rfl).trans rfl)
     | (go_at_call 64; refine (spec_l01In.calls a2 6 (wrap64 (ji9 - 1)) true _ HIN.out).mono ?_; rintro e wc_ ⟨rfl, hb_⟩; replace HS := A0_ (Sp.far HS.out hb_.below); clear hb_ ha0))
    go_ret; (exact ⟨rfl, HS.out.below⟩)
   | false =>
    (rw [hb] at H)
    obtain ⟨KQ, nx, hA, hC⟩ : ∃ K nx, spec_l27After.f K l1 a2 = some nx ∧ spec_l27Clear.f K l0_0 nx = some r := by
     (rcases fin _ _ H with h | h)
     ·(cases h.1)
     ·(exact h.2)
    (have HA := A0_ hA); (have HCL := A0_ hC); (have hb2 : ((wrap64 (a2.tdiv 6)).tmod 2 = 1) = False := eq_false (by simpa using hb)); clear fin H hA hC; (go_enter Try.func58, Try.ntmps58)
    go_wp2_with (first
     | ((with_reducible refine gate_dst (N := 3) rfl ?_); refine be_ (N := 3) (cs := #[.slice A0_0 l0_0.length c0_0]) (t := 26) ?_; intro ga hgb_ wb_ hcb_ hbb_; replace HS := A0_ (Sp.boxed HS.out hgb_ hcb_ hbb_); clear hgb_ hcb_ hbb_; have ha0 := (cl_ HS 0 0 rfl).trans rfl)
     | (go_at_call 64; refine (spec_l01In.calls a2 6 (wrap64 (ji9 - 1)) true _ HIN.out).mono ?_; rintro e wc_ ⟨rfl, hb_⟩; replace HS := A0_ (Sp.far HS.out hb_.below); clear hb_ ha0; have ha0 := (cl_ HS 0 0 rfl).trans rfl))
    (have HS_ := A0_ (show Sp w ([Res.blk ga #[.slice A0_0 l0_0.length c0_0] 26] ++ ([] : List Res)) wc_.drew from Sp.drew HS.out)); clear HS ha0; (have HS := HS_); clear HS_
    refine start_ (n := 6) (S := fun w' => w'.cell? ⟨ga, 0, none⟩ = some (.slice A0_0 l0_0.length c0_0)) (ds := []) #[ff,ff,ff,ff,ff,ff] (by kernel_rfl) rfl rfl ((cl_ HS 0 0 rfl).trans rfl) (fun hHeld => ?_)
    refine with_tabW possF.tab4 possF.bits4 (fun HT_ HW_ => ?_)
    (generalize wc_.drew = wD at HS hHeld ⊢); (refine tk_ 0 (some 24) ?_); (refine on_ 1 (some 25) ?_); (refine on_ 2 (some 26) ?_)
    refine o1_ 3 (some 27) (fun K hK => ?_)
    (refine gs_ Try.func59 #[.slice A1 l1.length c1, .int .i64 a2] ?_); (refine (spec_l27After.calls KQ A1 c1 l1 a2 nx _ (Kd.C_below HO.out HS.out.below) HCO.out HA.out).mono ?_); (rintro e wd_ ⟨vd_, rfl, ho_, hb_⟩); (refine ⟨_, rfl, ?_⟩); (replace HS := A0_ (Sp.made' HS.out hb_ ho_)); (obtain ⟨Ad_, cd_, rfl⟩ := Kd.R_slice ho_); clear ho_ hb_
    refine hK.out _ _ ((cl_ HS 1 0 rfl).trans rfl) (fun hHeld => ?_)
    clear hK K; (refine nm_ (some 27) ?_)
    refine o1_ 4 (some 28) (fun K hK => ?_)
    (refine gs_ Try.func88 #[.agg #[.slice A0_0 l0_0.length c0_0], .slice Ad_ nx.length cd_] ?_); (refine (spec_l27Clear.calls KQ A0_0 c0_0 l0_0 Ad_ cd_ nx r _ (Kd.C_below HP.out HS.out.below) HCP.out (Sp.reads HS.out (i := 0) rfl).2.2 (Sp.reads HS.out (i := 0) rfl).2.1 HCL.out).mono ?_); (rintro e we_ ⟨rfl, hb_⟩); (refine ⟨_, rfl, ?_⟩); (replace HS := A0_ (Sp.far HS.out hb_)); clear hb_
    refine hK.out _ _ ((cl_ HS 1 0 rfl).trans rfl) (fun hHeld => ?_)
    clear hK K; (refine nm_ (some 28) ?_); (refine on_ 5 (some 6) ?_); (refine dn_ ?_); (try go_wp2); go_ret; (exact ⟨rfl, HS.out.below⟩)
 ·(rw [if_neg c8] at h); (cases h)
end
section
attribute [local go_sem] max2_int min2_int max_two min_two max_three min_three max_four min_four
def spec_l27Moves.l0 : Nat → List (S94) → List Int → Int → List (List (S94)) → Option (List Int)
  | 0, _, _, _, _ => none
  | k + 1, x1, x5, x6, x476000 => if 0 ≤ (IntKind.u64.wrap ((x476000.length : Int))) then (if x6 < (shl .i64 6 (IntKind.u64.wrap ((x476000.length : Int)))) then ((spec_l27Possible.f k x476000 x1 x6).bind fun t479 => (if t479 = true then (if x5.length < 17592186044416 then (spec_l27Moves.l0 k x1 (x5 ++ [x6]) (wrap64 (x6 + 1)) x476000) else (none)) else (spec_l27Moves.l0 k x1 x5 (wrap64 (x6 + 1)) x476000))) else (some x5)) else (none)
def spec_l27Moves.f (k : Nat) (l0_0 : List (List (S94))) (l1 : List (S94)) : Option (List Int) := spec_l27Moves.l0 k l1 (([] : List Int)) 6 l0_0
set_option maxHeartbeats 8000000 in
set_option maxRecDepth 100000 in
theorem spec_l27Moves.calls (k : Nat) (A0_0 : Option Addr) (c0_0 : Nat) (l0_0 : List (List (S94))) (A1 : Option Addr) (c1 : Nat) (l1 : List (S94)) (r : List Int) (w : World) (hr0_0 : Kd.C (Kd.slice 94 k94) w A0_0 l0_0.length l0_0) (hc0_0 : l0_0.length ≤ c0_0) (hr1 : Kd.C k94 w A1 l1.length l1) (hc1 : l1.length ≤ c1) (h : spec_l27Moves.f k l0_0 l1 = some r) :
    Calls Try.prog 92 #[.agg #[.slice A0_0 l0_0.length c0_0], .slice A1 l1.length c1] w fun e w' => ∃ v0_ : Value, e = .returned (v0_) ∧ Kd.R (Kd.int .i64) 2 w' w.heap.size (fun _ => True) v0_ r ∧ Below w.heap.size w w' := by
 (have hu26 := Try.underlying26); (have HR0_0 := A0_ hr0_0); (have HC0_0 := A0_ hc0_0); clear hr0_0 hc0_0; (have HR1 := A0_ hr1); (have HC1 := A0_ hc1); clear hr1 hc1; (have HB := A0_ (Below.refl w.heap.size w)); (have H : (spec_l27Moves.l0 k l1 (([] : List Int)) 6 l0_0) = some r := h); clear h; (obtain ⟨y476, hy476⟩ : ∃ y_ : List Int, y_ = (([] : List Int)) := ⟨_, rfl⟩); (replace H : (spec_l27Moves.l0 k l1 y476 6 l0_0) = some r := by first | (rw [hy476]; with_reducible exact H) | (have H2_ := (Option.bind_some _ _).symm.trans H; rw [hy476]; with_reducible exact H2_) | (have H2_ := (Option.bind_some _ _).symm.trans H; with_reducible exact H2_) | with_reducible exact H | (rw [hy476]; exact H) | exact H); (have Ny476 := A0_ hy476); clear hy476; (have H' := A0_ H); clear H; (go_enter Try.func92, Try.ntmps92)
 go_wp2_with (first | ((with_reducible refine gate_dst (N := 2) rfl ?_); refine be_ (N := 2) (cs := #[.slice A0_0 l0_0.length c0_0]) (t := 26) ?_; intro gb475 hg w3 hbox hb; have n0_ := A0_ (below_step bw_ hb); have n1_ := A0_ (hbox); have n2_ := A0_ ((by rw [hg]; exact (below_size bw_) : w.heap.size ≤ gb475)); have n3_ := A0_ ((by rw [hg]; exact (below_size bw_) : w.heap.size ≤ gb475)); clear HB; have HB := n0_; have BK475 := n1_; have GW475 := n2_; have GE475 := n3_; clear n0_ n1_ n2_ n3_; clear hb hbox hg) | ((with_reducible refine gate_dst (N := 7) rfl ?_); refine Kd.R_lit (Kd.int .i64) _ 2 ?hg (N := 7) ?hd (xs := ([] : List Int)) (inner := []) (ok := fun _ => True) (okp := fun _ => True) ?hr ?hp (fun _ hk => hk) trivial (Below.refl _ _) (Nat.le_refl _) (by simp) ?_; (case hd => rfl); (case hg => rfl); (case hr => first | (go_simp; done) | (go_simp; rfl)); (case hp => exact (Reps.none _ _)); intro v477 w4 ho5 hb hg_ hnew_; clear hg_ hnew_; (first | rw [← Ny476.out] at ho5 | (simp only [Int.reduceToNat] at ho5; rw [← Ny476.out] at ho5)); have n0_ := A0_ (Kd.R_lower ho5 (below_size bx_)); have n1_ := A0_ (blk_below (g := gb475) (o := .cells #[.slice A0_0 l0_0.length c0_0] 26 (0, 0)) (bk_ BK475) hb); have n2_ := A0_ (below_step bx_ hb); clear BK475; clear HB; have HO478 := n0_; have BK475 := n1_; have HB := n2_; clear n0_ n1_ n2_; clear hb ho5))
 go_loopg [5, 6] k (fun kq v5 v6 w' => ∃ (x5_1 : List Int) (x6_1 : Int), v6 = .int .i64 x6_1 ∧ Aside0 (spec_l27Moves.l0 kq l1 x5_1 x6_1 l0_0 = some r) ∧ Aside0 (kq ≤ k) ∧ Aside0 (Kd.R (Kd.int .i64) 2 w' w.heap.size (fun _ => True) v5 x5_1) ∧ Aside0 (w'.heap[gb475]? = some (.cells #[(.slice A0_0 l0_0.length c0_0)] 26 (0, 0))) ∧ Aside0 (Below w.heap.size w w'))
 case atStart => exact ⟨(y476), (6), (by first | rfl | (simp; done) | (simp [*]; done)), H', ⟨Nat.le_refl _⟩, ⟨by (with_reducible repeat (first | apply Ra_ | apply Rn_ | apply Rd_)); exact HO478.out⟩, ⟨by exact bk_ BK475⟩, ⟨by repeat (first | (with_reducible first | exact HB.out | apply ba_ | apply bn_ | apply bd_ | refine below_set ?_ GE475.out) | exact HB.out)⟩⟩
 case round =>
  clear H'; (try clear c1); (try clear p2); (obtain ⟨x5_1, x6_1, rfl, HA, HK1, HO_5, BK475, HB⟩ := hrel)
  cases gk with
  | zero => exact absurd HA.out (by simp [spec_l27Moves.l0])
  | succ k1 =>
   (have H := HA.out); clear HA; (simp only [spec_l27Moves.l0] at H); (obtain ⟨ji6, hji6⟩ : ∃ j_ : Int, (IntKind.u64.wrap ((l0_0.length : Int))) = j_ := ⟨_, rfl⟩)
   replace H : (if 0 ≤ (ji6) then (if x6_1 < (shl .i64 6 (ji6)) then ((spec_l27Possible.f k1 l0_0 l1 x6_1).bind fun t479 => (if t479 = true then (if x5_1.length < 17592186044416 then (spec_l27Moves.l0 k1 l1 (x5_1 ++ [x6_1]) (wrap64 (x6_1 + 1)) l0_0) else (none)) else (spec_l27Moves.l0 k1 l1 x5_1 (wrap64 (x6_1 + 1)) l0_0))) else (some x5_1)) else (none)) = some r := by first | (rw [hji6] at H; exact H) | (simp only [hji6] at H ⊢; exact H)
   (by_cases c7 : 0 ≤ (ji6))
   ·(rw [if_pos c7] at H); (have c7b0 := eq_true c7); (have c7b1 : decide (0 ≤ (ji6)) = true := decide_eq_true c7); clear c7; (obtain ⟨ji8, hji8⟩ : ∃ j_ : Int, (shl .i64 6 (ji6)) = j_ := ⟨_, rfl⟩)
    replace H : (if x6_1 < (ji8) then ((spec_l27Possible.f k1 l0_0 l1 x6_1).bind fun t479 => (if t479 = true then (if x5_1.length < 17592186044416 then (spec_l27Moves.l0 k1 l1 (x5_1 ++ [x6_1]) (wrap64 (x6_1 + 1)) l0_0) else (none)) else (spec_l27Moves.l0 k1 l1 x5_1 (wrap64 (x6_1 + 1)) l0_0))) else (some x5_1)) = some r := by first | (rw [hji8] at H; exact H) | (simp only [hji8] at H ⊢; exact H)
    (have hji8_ : (IntKind.i64.wrap (6 * 2 ^ min (ji6).toNat 64)) = ji8 := hji8); (have hji8z : (ji6) ≤ 64 → (IntKind.i64.wrap (6 * 2 ^ (ji6).toNat)) = ji8 := shl_small hji8); (have hji8y : (wrap64 (6 * 2 ^ min (ji6).toNat 64)) = ji8 := (i64_w _).symm.trans hji8_)
    have hji8x : (ji6) ≤ 64 → (wrap64 (6 * 2 ^ (ji6).toNat)) = ji8 := fun h_ => (i64_w _).symm.trans (hji8z h_)
    (by_cases c9 : x6_1 < (ji8))
    ·(rw [if_pos c9] at H); (have c9b0 : decide (x6_1 < (ji8)) = true := decide_eq_true c9); clear c9; (replace H := Option.bind_eq_some_iff.mp H); (obtain ⟨t479, A100, H⟩ := H); (try dsimp only at H); (have A10 := A0_ A100); clear A100; (have H0_ := A0_ H); clear H; (have hcz11_0 : wr.cell? ⟨gb475, 0, none⟩ = some (.slice A0_0 l0_0.length c0_0) := (blk_cell BK475.out 0).trans rfl); (have hfz11_0 := blk_frozen BK475.out 0); (go_wp2_with (first | ((with_reducible refine gate_callee (f := 58) rfl ?_); refine gl_ (some 20) Try.func58 #[.agg #[.slice A0_0 l0_0.length c0_0], .slice A1 l1.length c1, .int .i64 x6_1] ?_; (with_reducible refine (spec_l27Possible.calls k1 _ _ l0_0 _ _ l1 x6_1 t479 _ ?side1 ?side2 ?side3 ?side4 A10.out).mono ?_); (case side1 => exact kc_ (Kd.C_below HR0_0.out HB.out)); (case side2 => exact HC0_0.out); (case side3 => exact kc_ (Kd.C_below HR1.out HB.out)); (case side4 => exact HC1.out); rintro e w12 ⟨rfl, hb⟩; refine ⟨_, rfl, ?_⟩; have n0_ := A0_ (Kd.R_below (by (with_reducible repeat (first | apply Ra_ | apply Rn_ | apply Rd_)); exact HO_5.out) hb); have n1_ := A0_ (blk_below (g := gb475) (o := .cells #[.slice A0_0 l0_0.length c0_0] 26 (0, 0)) (bk_ BK475) hb); have n2_ := A0_ (below_step bx_ hb); clear HO_5; clear BK475; clear HB; have HO_5 := n0_; have BK475 := n1_; have HB := n2_; clear n0_ n1_ n2_; (try clear hb); (try clear hb2); (try clear hk); (try clear hi); refine Stop0.out ?_))); (refine Stop0.mk ?_); (have H := H0_.out); clear H0_; (by_cases c13 : t479 = true)
     ·subst c13; (have H1 := H); (rw [if_pos rfl] at H1); clear H; (have H := H1); clear H1; (by_cases c14 : x5_1.length < 17592186044416)
      ·(rw [if_pos c14] at H); (have LMc14 := A0_ c14); clear c14; (obtain ⟨y480, hy480⟩ : ∃ y_ : List Int, y_ = (x5_1 ++ [x6_1]) := ⟨_, rfl⟩); (replace H : (spec_l27Moves.l0 k1 l1 y480 (wrap64 (x6_1 + 1)) l0_0) = some r := by first | (rw [hy480]; with_reducible exact H) | (have H2_ := (Option.bind_some _ _).symm.trans H; rw [hy480]; with_reducible exact H2_) | (have H2_ := (Option.bind_some _ _).symm.trans H; with_reducible exact H2_) | with_reducible exact H | (rw [hy480]; exact H) | exact H); (have Ny480 := A0_ hy480); clear hy480; (have H' := A0_ H); clear H
       go_wp2_with (first | ((with_reducible refine gate_builtin (b := .append) (xs := #[.tmp 21, .tmp 23]) rfl ?_); at_builtin; refine Kd.R_append (Kd.int .i64) (w0 := w) w.heap.size rfl (.tmp 21) (.tmp 23) 28 2 (.int .i64 0) 8 rfl Try.underlying28 info2 rfl (by decide) (by omega) u5 x5_1 x6_1 [.int .i64 x6_1] (fun _ => True) (fun _ => False) rfl rfl ?aP (fun _ hk => hk.elim) ?aF ?aO ?aB ?aS ?aL ?_; (case aP => exact rfl); (case aB => exact bx_); (case aF => exact (fun _ _ => trivial)); (case aO => exact (by (with_reducible repeat (first | apply Ra_ | apply Rn_ | apply Rd_)); exact HO_5.out)); (case aS => exact (below_size bx_)); (case aL => have := LMc14.out; omega); intro v481 w15 ho hb hg hat; rw [← Ny480.out] at ho; have n0_ := A0_ (blk_grown (g := gb475) (o := .cells #[.slice A0_0 l0_0.length c0_0] 26 (0, 0)) (bk_ BK475) hg (Kd.R_ne HO_5.out BK475.out (by decide))); have n1_ := A0_ (hb); have n2_ := A0_ (ho); clear BK475; clear HB; clear HO_5; have BK475 := n0_; have HB := n1_; have HO482 := n2_; clear n0_ n1_ n2_; clear ho hb hg hat))
       (go_roundg k1)
       case measure => have := HK1.out; omega
       case rel => exact ⟨(y480), (wrap64 (x6_1 + 1)), (by first | rfl | (simp; done) | (simp [*]; done)), H', ⟨by have := HK1.out; omega⟩, ⟨by (with_reducible repeat (first | apply Ra_ | apply Rn_ | apply Rd_)); exact HO482.out⟩, ⟨by exact bk_ BK475⟩, ⟨by repeat (first | (with_reducible first | exact HB.out | apply ba_ | apply bn_ | apply bd_ | refine below_set ?_ GE475.out) | exact HB.out)⟩⟩
      ·(rw [if_neg c14] at H); (exact absurd H (by simp))
     ·(replace c13 := Bool.eq_false_iff.mpr c13); subst c13; (have H1 : (spec_l27Moves.l0 k1 l1 x5_1 (wrap64 (x6_1 + 1)) l0_0) = some r := by rw [if_neg (show ¬ (false = true) by decide)] at H; exact H); clear H; (have H := H1); clear H1; (have H' := A0_ H); clear H; go_wp2; (go_roundg k1)
      case measure => have := HK1.out; omega
      case rel => exact ⟨(x5_1), (wrap64 (x6_1 + 1)), (by first | rfl | (simp; done) | (simp [*]; done)), H', ⟨by have := HK1.out; omega⟩, ⟨by (with_reducible repeat (first | apply Ra_ | apply Rn_ | apply Rd_)); exact HO_5.out⟩, ⟨by exact bk_ BK475⟩, ⟨by repeat (first | (with_reducible first | exact HB.out | apply ba_ | apply bn_ | apply bd_ | refine below_set ?_ GE475.out) | exact HB.out)⟩⟩
    ·(rw [if_neg c9] at H); (have c9b0 : decide (x6_1 < (ji8)) = false := decide_eq_false c9); clear c9; (obtain rfl := Option.some.inj H); (have hcz16_0 : wr.cell? ⟨gb475, 0, none⟩ = some (.slice A0_0 l0_0.length c0_0) := (blk_cell BK475.out 0).trans rfl); (have hfz16_0 := blk_frozen BK475.out 0); go_wp2; go_ret; (exact ⟨_, by first | rfl | (simp [errW_none, errW_some] <;> rfl) | (simp only [← hji6, ← hji8]; first | rfl | (simp [errW_none, errW_some] <;> rfl)) | (simp [*, errW_none, errW_some] <;> rfl), by (with_reducible repeat (first | apply Ra_ | apply Rn_ | apply Rd_)); exact HO_5.out, bx_⟩)
   ·(rw [if_neg c7] at H); (exact absurd H (by simp))
end
end Go.Proofs.Ytcobnlilmihjfaa.A


namespace Go.Proofs.Ytcobnlilmihjfaa.A
open Go.RowKit Go.Proofs.YtcobnlilmihjfaaW.PrintWords Go.Proofs.YtcobnlilmihjfaaW.PrintLast Go.Proofs.YtcobnlilmihjfaaW.PrintMore
set_option linter.unusedVariables false
set_option linter.unusedSimpArgs false
def expF.T1 : Bool × List (List Nat × List Nat) := (true, [([], []), ([], []), ([1], [1]), ([2], [2]), ([3], [3]), ([], []), ([4, 5], [4, 5]), ([6], [6]), ([0, 7], [0, 7]), ([8, 8, 0, 1, 2, 3, 4, 5, 6, 7, 8], [8])])
def expF.B1 : List Nat := [0, 0, 2, 6, 14, 0, 62, 126, 255, 511]
theorem expF.tab1 : rtab .any (opsOf Try.f87 1) = expF.T1 := by kernel_rfl
theorem expF.bits1 : waitsOk expF.T1.2 expF.B1 = true := by kernel_rfl
def expF.T5 : Bool × List (List Nat × List Nat) := (true, [([], []), ([0], [0]), ([1], [1]), ([2], [2]), ([], []), ([3, 4], [3, 4]), ([5], [5]), ([], []), ([], []), ([7, 8], [7, 8]), ([9], [9]), ([6, 10], [6, 10]), ([11, 11, 0, 1, 2, 3, 4, 5, 6, 7, 8, 9, 10, 11], [11])])
def expF.B5 : List Nat := [0, 1, 3, 7, 0, 31, 63, 0, 0, 384, 896, 2047, 4095]
theorem expF.tab5 : rtab .any (opsOf Try.f87 5) = expF.T5 := by kernel_rfl
theorem expF.bits5 : waitsOk expF.T5.2 expF.B5 = true := by kernel_rfl
def stepO (o d : Cb) : Nat → Cb
 | 0 => o
 | n + 1 => addC (stepO o d n) d
def leavesP (parts : List (List Cb)) (offs : List Cb) (p d : Int) : Bool := (List.range 40).all fun j => aloneP parts offs p (stepO (oAt offs p.toNat) (vecP d) (j + 1))
def freeK (parts : List (List Cb)) (offs : List Cb) (m : Nat) : List Int := ((List.range m).filter fun k : Nat => leavesP parts offs ((k / 6 : Nat) : Int) ((k % 6 : Nat) : Int)).map fun (k : Nat) => (k : Int)
def freeP (parts : List (List Cb)) (offs : List Cb) : List Int := freeK parts offs (6 * parts.length)
theorem freeK_succ (parts : List (List Cb)) (offs : List Cb) (m : Nat) : freeK parts offs (m + 1) = freeK parts offs m ++ (if leavesP parts offs ((m / 6 : Nat) : Int) ((m % 6 : Nat) : Int) = true then [(m : Int)] else []) := by
 unfold freeK
 rw [List.range_succ, List.filter_append, List.map_append]
 congr 1
 by_cases c : leavesP parts offs ((m / 6 : Nat) : Int) ((m % 6 : Nat) : Int) = true
 ·rw [if_pos c, List.filter_cons_of_pos (by exact c)]; rfl
 ·rw [if_neg c, List.filter_cons_of_neg (by exact c)]; rfl
theorem freeK_len (parts : List (List Cb)) (offs : List Cb) (m : Nat) : (freeK parts offs m).length ≤ m := by
 unfold freeK
 rw [List.length_map]
 refine Nat.le_trans (List.length_filter_le _ _) ?_
 rw [List.length_range]
 exact Nat.le_refl _
theorem wrap_assoc (a b c : Int) : wrap64 (wrap64 (a + b) + c) = wrap64 (a + wrap64 (b + c)) := by unfold wrap64; omega
theorem addC_assoc (a b c : Cb) : addC (addC a b) c = addC a (addC b c) := by
 unfold addC
 dsimp only
 rw [wrap_assoc, wrap_assoc, wrap_assoc]
theorem vec_small (d : Int) (hd : 0 ≤ d ∧ d < 6) : inCb (vecP d) (-1) 1 = true := by
 obtain h | h | h | h | h | h : d = 0 ∨ d = 1 ∨ d = 2 ∨ d = 3 ∨ d = 4 ∨ d = 5 := by omega
 all_goals subst h; rfl
theorem step_small (o v : Cb) (ho : inCb o (-12) 12 = true) (hv : inCb v (-1) 1 = true) : ∀ n : Nat, n ≤ 40 → inCb (stepO o v n) (-(12 + (n : Int))) (12 + (n : Int)) = true
 | 0, _ => by simpa [stepO] using ho
 | n + 1, hn => by
  have ih := step_small o v ho hv n (by omega)
  have h1 := inCb_mono ih (show (-200 : Int) ≤ -(12 + (n : Int)) by omega) (show 12 + (n : Int) ≤ 200 by omega)
  have h2 := inCb_mono hv (show (-200 : Int) ≤ -1 by omega) (show (1 : Int) ≤ 200 by omega)
  show inCb (addC (stepO o v n) v) _ _ = true
  rw [addC_small h1 h2]
  rw [inCb_iff] at ih hv ⊢
  dsimp only
  omega
def LvOk (parts : List (List Cb)) (offs : List Cb) (p d : Int) : Prop := (offs.length = parts.length ∧ parts.length ≤ 8) ∧ (∀ q ∈ parts, q.length ≤ 1048576) ∧ (∀ q ∈ parts, ∀ c ∈ q, inCb c 0 7 = true) ∧ (∀ c ∈ offs, inCb c (-12) 12 = true) ∧ (0 ≤ p ∧ p < (parts.length : Int)) ∧ 0 ≤ d ∧ d < 6
instance decLvOk (parts : List (List Cb)) (offs : List Cb) (p d : Int) : Decidable (LvOk parts offs p d) := by unfold LvOk; exact inferInstance
theorem move_step (P : List Cb) (o v : Cb) (j : Nat) : ((P.map fun c => addC c (stepO o v j)).map fun c => addC c v) = P.map fun c => addC c (stepO o v (j + 1)) := by
 rw [List.map_map]
 exact List.map_congr_left fun c _ => addC_assoc c (stepO o v j) v
theorem oAt_mem (offs : List Cb) (j : Nat) (hj : j < offs.length) : oAt offs j ∈ offs := by
 have e : oAt offs j = offs[j] := by simp [oAt, List.getD_eq_getElem?_getD, hj]
 rw [e]
 exact List.getElem_mem hj
theorem leave_pair (parts : List (List Cb)) (offs : List Cb) (p i : Nat) (hp : p < parts.length) (hi : i < parts.length) (hl : offs.length = parts.length) (hc : ∀ q ∈ parts, ∀ c ∈ q, inCb c 0 7 = true) (ho : ∀ c ∈ offs, inCb c (-12) 12 = true) (v : Cb) (hv : inCb v (-1) 1 = true) (j : Nat) (hj : j ≤ 40) :
  (((partAt parts (p : Int)).map fun c => addC c (stepO (oAt offs p) v j)).any fun c => ((partAt parts (i : Int)).map fun c => addC c (oAt offs i)).contains c) = touchP parts i p (subC (stepO (oAt offs p) v j) (oAt offs i)) := by
 have hm : ∀ i : Nat, i < parts.length → partAt parts (i : Int) ∈ parts := fun i hi => by
  have : partAt parts (i : Int) = parts[i] := by unfold partAt; simp [hi]
  rw [this]; exact List.getElem_mem _
 exact pair_wide _ _ _ _ (hc _ (hm p hp)) (hc _ (hm i hi)) (inCb_mono (step_small _ v (ho _ (oAt_mem offs p (by omega))) hv j hj) (by omega) (by omega)) (inCb_mono (ho _ (oAt_mem offs i (by omega))) (by omega) (by omega))
end Go.Proofs.Ytcobnlilmihjfaa.A
