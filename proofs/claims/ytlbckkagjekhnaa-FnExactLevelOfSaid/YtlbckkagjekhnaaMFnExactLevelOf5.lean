/- What the row of the law FnExactLevelOf stands on, part 5. -/
import Derived.Test.YtlbckkagjekhnaaMFnExactLevelOf4
namespace Go.Proofs.Ytlbckkagjekhnaa.A
open Go.RowKit Go.Proofs.YtlbckkagjekhnaaW.PrintWords Go.Proofs.YtlbckkagjekhnaaW.PrintLast Go.Proofs.YtlbckkagjekhnaaW.PrintMore
attribute [local go_sem] max2_int min2_int max_two min_two max_three min_three max_four min_four   -- for this text's walks alone
set_option linter.unusedVariables false
set_option linter.unusedSimpArgs false
def laws_toAssembly.f (k : Nat) (l0_0 : List (List (S71))) : Option ((List (List (S69)))) := (laws_toCubeSS.f k l0_0).bind fun t243 => (some t243)
set_option maxHeartbeats 8000000 in
set_option maxRecDepth 100000 in
theorem laws_toAssembly.calls (k : Nat) (A0_0 : Option Addr) (c0_0 : Nat) (l0_0 : List (List (S71))) (r : List (List (S69))) (w : World) (hr0_0 : Kd.C (Kd.slice 71 k71) w A0_0 l0_0.length l0_0) (hc0_0 : l0_0.length ≤ c0_0) (h : laws_toAssembly.f k l0_0 = some r) :
    Calls Try.prog 13 #[.agg #[.slice A0_0 l0_0.length c0_0]] w fun e w' => ∃ v0_ : Value, e = .returned (.agg #[v0_]) ∧ Kd.S (Kd.slice 69 k69) 34 w' w.heap.size (fun _ => True) v0_ r ∧ Below w.heap.size w w' := by
 (have hu24 := Try.underlying24); (have hu32 := Try.underlying32); (have HR0_0 := A0_ hr0_0); (have HC0_0 := A0_ hc0_0); clear hr0_0 hc0_0; (have HB := A0_ (Below.refl w.heap.size w))
 have H : ((laws_toCubeSS.f k l0_0).bind fun t243 => (some t243)) = some r := h
 clear h; (replace H := Option.bind_eq_some_iff.mp H); (obtain ⟨t243, A20, H⟩ := H); (try dsimp only at H); (have A2 := A0_ A20); clear A20; (have H0_ := A0_ H); clear H; (go_enter Try.func13, Try.ntmps13); (go_wp2_with (first | ((with_reducible refine gate_dst (N := 1) rfl ?_); refine box_event ?hg (N := 1) ?hd (cs := #[.slice A0_0 l0_0.length c0_0]) (t := 24) ?hr ?_; (case hd => rfl); (case hg => rfl); (case hr => first | (go_simp; done) | (go_simp; rfl)); intro gb240 hg w3 hbox hb; have n0_ := A0_ (below_step (by repeat (first | (with_reducible first | exact HB.out | apply ba_ | apply bn_ | apply bd_) | exact HB.out)) hb); have n1_ := A0_ (hbox); have n2_ := A0_ ((by rw [hg]; exact (below_size (by repeat (first | (with_reducible first | exact HB.out | apply ba_ | apply bn_ | apply bd_) | exact HB.out))) : w.heap.size ≤ gb240)); have n3_ := A0_ ((by rw [hg]; exact (below_size (by repeat (first | (with_reducible first | exact HB.out | apply ba_ | apply bn_ | apply bd_) | exact HB.out))) : w.heap.size ≤ gb240)); clear HB; have HB := n0_; have BK240 := n1_; have GW240 := n2_; have GE240 := n3_; clear n0_ n1_ n2_ n3_; clear hb hbox hg) | ((with_reducible refine gate_dst (N := 2) rfl ?_); refine box_event ?hg (N := 2) ?hd (cs := #[.slice none 0 0]) (t := 32) ?hr ?_; (case hd => rfl); (case hg => rfl); (case hr => first | (go_simp; done) | (go_simp; rfl)); intro gb241 hg w4 hbox hb; have n0_ := A0_ (blk_below (g := gb240) (o := .cells #[.slice A0_0 l0_0.length c0_0] 24 (0, 0)) (by (with_reducible repeat (first | apply gn_ | apply gd_ | apply ga_)); exact BK240.out) hb); have n1_ := A0_ (below_step (by repeat (first | (with_reducible first | exact HB.out | apply ba_ | apply bn_ | apply bd_ | refine below_set ?_ GE240.out) | exact HB.out)) hb); have n2_ := A0_ (hbox); have n3_ := A0_ ((by rw [hg]; exact (below_size (by repeat (first | (with_reducible first | exact HB.out | apply ba_ | apply bn_ | apply bd_ | refine below_set ?_ GE240.out) | exact HB.out))) : w.heap.size ≤ gb241)); have n4_ := A0_ ((by rw [hg]; exact (below_size (by repeat (first | (with_reducible first | exact HB.out | apply ba_ | apply bn_ | apply bd_ | refine below_set ?_ GE240.out) | exact HB.out))) : w.heap.size ≤ gb241)); have n5_ := A0_ ((by rw [hg]; exact Nat.ne_of_lt (blk_lt (g := gb240) (o := .cells #[.slice A0_0 l0_0.length c0_0] 24 (0, 0)) (by (with_reducible repeat (first | apply gn_ | apply gd_ | apply ga_)); exact BK240.out)) : gb240 ≠ gb241)); have n6_ := A0_ ((by rw [hg]; exact Nat.ne_of_gt (blk_lt (g := gb240) (o := .cells #[.slice A0_0 l0_0.length c0_0] 24 (0, 0)) (by (with_reducible repeat (first | apply gn_ | apply gd_ | apply ga_)); exact BK240.out)) : gb241 ≠ gb240)); clear BK240; clear HB; have BK240 := n0_; have HB := n1_; have BK241 := n2_; have GW241 := n3_; have GE241 := n4_; have NB240_241 := n5_; have NB241_240 := n6_; clear n0_ n1_ n2_ n3_ n4_ n5_ n6_; clear hb hbox hg) | ((with_reducible refine gate_dst (N := 3) rfl ?_); refine box_event ?hg (N := 3) ?hd (cs := #[.slice none 0 0]) (t := 32) ?hr ?_; (case hd => rfl); (case hg => rfl); (case hr => first | (go_simp; done) | (go_simp; rfl)); intro gb242 hg w5 hbox hb; have n0_ := A0_ (blk_below (g := gb240) (o := .cells #[.slice A0_0 l0_0.length c0_0] 24 (0, 0)) (by (with_reducible repeat (first | apply gn_ | apply gd_ | apply ga_)); exact BK240.out) hb); have n1_ := A0_ (blk_below (g := gb241) (o := .cells #[.slice none 0 0] 32 (0, 0)) (by (with_reducible repeat (first | apply gn_ | apply gd_ | apply ga_)); exact BK241.out) hb); have n2_ := A0_ (below_step (by repeat (first | (with_reducible first | exact HB.out | apply ba_ | apply bn_ | apply bd_ | refine below_set ?_ GE240.out | refine below_set ?_ GE241.out) | exact HB.out)) hb); have n3_ := A0_ (hbox); have n4_ := A0_ ((by rw [hg]; exact (below_size (by repeat (first | (with_reducible first | exact HB.out | apply ba_ | apply bn_ | apply bd_ | refine below_set ?_ GE240.out | refine below_set ?_ GE241.out) | exact HB.out))) : w.heap.size ≤ gb242)); have n5_ := A0_ ((by rw [hg]; exact (below_size (by repeat (first | (with_reducible first | exact HB.out | apply ba_ | apply bn_ | apply bd_ | refine below_set ?_ GE240.out | refine below_set ?_ GE241.out) | exact HB.out))) : w.heap.size ≤ gb242)); have n6_ := A0_ ((by rw [hg]; exact Nat.ne_of_lt (blk_lt (g := gb240) (o := .cells #[.slice A0_0 l0_0.length c0_0] 24 (0, 0)) (by (with_reducible repeat (first | apply gn_ | apply gd_ | apply ga_)); exact BK240.out)) : gb240 ≠ gb242)); have n7_ := A0_ ((by rw [hg]; exact Nat.ne_of_gt (blk_lt (g := gb240) (o := .cells #[.slice A0_0 l0_0.length c0_0] 24 (0, 0)) (by (with_reducible repeat (first | apply gn_ | apply gd_ | apply ga_)); exact BK240.out)) : gb242 ≠ gb240)); have n8_ := A0_ ((by rw [hg]; exact Nat.ne_of_lt (blk_lt (g := gb241) (o := .cells #[.slice none 0 0] 32 (0, 0)) (by (with_reducible repeat (first | apply gn_ | apply gd_ | apply ga_)); exact BK241.out)) : gb241 ≠ gb242)); have n9_ := A0_ ((by rw [hg]; exact Nat.ne_of_gt (blk_lt (g := gb241) (o := .cells #[.slice none 0 0] 32 (0, 0)) (by (with_reducible repeat (first | apply gn_ | apply gd_ | apply ga_)); exact BK241.out)) : gb242 ≠ gb241)); clear BK240; clear BK241; clear HB; have BK240 := n0_; have BK241 := n1_; have HB := n2_; have BK242 := n3_; have GW242 := n4_; have GE242 := n5_; have NB240_242 := n6_; have NB242_240 := n7_; have NB241_242 := n8_; have NB242_241 := n9_; clear n0_ n1_ n2_ n3_ n4_ n5_ n6_ n7_ n8_ n9_; clear hb hbox hg; have hnb6 := NB240_241.out; have hnc6 := NB241_240.out; have hnb7 := NB240_242.out; have hnc7 := NB242_240.out; have hcz8_0 : w5.cell? ⟨gb240, 0, none⟩ = some (.slice A0_0 l0_0.length c0_0) := (blk_cell BK240.out 0).trans rfl; have hfz8_0 := blk_frozen BK240.out 0) | ((with_reducible refine gate_callee (f := 47) rfl ?_); refine goesL_ (some 6) rfl rfl Try.func47 (by kernel_rfl) rfl #[.slice A0_0 l0_0.length c0_0] rfl (by (try simp only [List.map_toArray, List.map_cons, List.map_nil]); first | done | rfl | (simp only [List.length_drop, List.length_take]; rfl)) ?_; (with_reducible refine (laws_toCubeSS.calls k _ _ l0_0 t243 _ ?side1 ?side2 A2.out).mono ?_); (case side1 => repeat (first | exact (Kd.C_below HR0_0.out HB.out) | (with_reducible refine Kd.C_alloc ?_ _) | (with_reducible refine Kd.C_drewN ?_ _) | (with_reducible refine Kd.C_drew ?_))); (case side2 => exact HC0_0.out); rintro e w9 ⟨v244, rfl, ho0, hb⟩; refine ⟨_, rfl, ?_⟩; have n0_ := A0_ (Kd.S_lower ho0 (below_size (by repeat (first | (with_reducible first | exact HB.out | apply ba_ | apply bn_ | apply bd_ | refine below_set ?_ GE240.out | refine below_set ?_ GE241.out | refine below_set ?_ GE242.out) | exact HB.out)))); have n1_ := A0_ (blk_below (g := gb240) (o := .cells #[.slice A0_0 l0_0.length c0_0] 24 (0, 0)) (by (with_reducible repeat (first | apply gn_ | apply gd_ | apply ga_)); exact BK240.out) hb); have n2_ := A0_ (blk_below (g := gb241) (o := .cells #[.slice none 0 0] 32 (0, 0)) (by (with_reducible repeat (first | apply gn_ | apply gd_ | apply ga_)); exact BK241.out) hb); have n3_ := A0_ (blk_below (g := gb242) (o := .cells #[.slice none 0 0] 32 (0, 0)) (by (with_reducible repeat (first | apply gn_ | apply gd_ | apply ga_)); exact BK242.out) hb); have n4_ := A0_ (below_step (by repeat (first | (with_reducible first | exact HB.out | apply ba_ | apply bn_ | apply bd_ | refine below_set ?_ GE240.out | refine below_set ?_ GE241.out | refine below_set ?_ GE242.out) | exact HB.out)) hb); clear BK240; clear BK241; clear BK242; clear HB; have HO245 := n0_; have BK240 := n1_; have BK241 := n2_; have BK242 := n3_; have HB := n4_; clear n0_ n1_ n2_ n3_ n4_; (try clear hb); (try clear hb2); (try clear hk); (try clear hi); (try clear ho0); refine Stop0.out ?_))); (refine Stop0.mk ?_); (have H := H0_.out); clear H0_; (obtain rfl := Option.some.inj H); (obtain ⟨Ao10, co10, eo10⟩ := Kd.S_slice HO245.out); subst eo10; (have hnb11 := NB242_240.out); (have hnc11 := NB240_242.out); (have hnb12 := NB242_241.out); (have hnc12 := NB241_242.out); (have hcz13_0 : w9.cell? ⟨gb242, 0, none⟩ = some (.slice none 0 0) := (blk_cell BK242.out 0).trans rfl); (have hfz13_0 := blk_frozen BK242.out 0); (have hnb14 := NB241_240.out); (have hnc14 := NB240_241.out); (have hcz15_0 : w9.cell? ⟨gb241, 0, none⟩ = some (.slice none 0 0) := (blk_cell BK241.out 0).trans rfl); (have hfz15_0 := blk_frozen BK241.out 0); go_wp2; (refine bodyPost_ret (results_cell_row rfl _ _ gb241 32 #[.slice Ao10 t243.length co10] (0, 0) _ rfl (by (with_reducible repeat (first | apply gn_ | apply gd_ | apply ga_)); refine blk_put (cs := #[.slice none 0 0]) ?_ 0 _ rfl; (with_reducible repeat (first | apply gn_ | apply gd_ | apply ga_)); refine blk_far ?_ NB241_242.out _; (with_reducible repeat (first | apply gn_ | apply gd_ | apply ga_)); exact BK241.out) Try.underlying32 rfl (by kernel_rfl)) rfl ?_)
 exact ⟨_, by first | rfl | (simp [errW_none, errW_some] <;> rfl) | (simp [*, errW_none, errW_some] <;> rfl), by (with_reducible repeat (first | apply Kd.S_alloc | apply Kd.S_drewN | apply Kd.S_drew)); exact Kd.S_mono (Kd.S_far (p := ⟨gb241, 0, none⟩) (Kd.S_far (p := ⟨gb242, 0, none⟩) (Kd.S_types (Kd.S_types HO245.out BK242.out (by decide)) BK241.out (by decide)) (fun _ hk => hk.1.2) (.slice Ao10 t243.length co10)) (fun _ hk => hk.2) (.slice Ao10 t243.length co10)) (fun _ hk => trivial), by repeat (first | (with_reducible first | exact HB.out | apply ba_ | apply bn_ | apply bd_ | refine below_set ?_ GE240.out | refine below_set ?_ GE241.out | refine below_set ?_ GE242.out) | exact HB.out)⟩
end Go.Proofs.Ytlbckkagjekhnaa.A

namespace Go.Proofs.Ytlbckkagjekhnaa.A
open Go.RowKit Go.Proofs.YtlbckkagjekhnaaW.PrintWords Go.Proofs.YtlbckkagjekhnaaW.PrintLast Go.Proofs.YtlbckkagjekhnaaW.PrintMore
attribute [local go_sem] max2_int min2_int max_two min_two max_three min_three max_four min_four   -- for this text's walks alone
set_option linter.unusedVariables false
set_option linter.unusedSimpArgs false
def laws_eqCube.f (a0_0 : Int) (a0_1 : Int) (a0_2 : Int) (a1_0 : Int) (a1_1 : Int) (a1_2 : Int) : Option (Bool) := if a0_0 = a1_0 then (if a0_1 = a1_1 then (if a0_2 = a1_2 then (some true) else (some false)) else (some false)) else (some false)
set_option maxHeartbeats 8000000 in
set_option maxRecDepth 100000 in
theorem laws_eqCube.calls (a0_0 : Int) (a0_1 : Int) (a0_2 : Int) (a1_0 : Int) (a1_1 : Int) (a1_2 : Int) (r : Bool) (w : World) (h : laws_eqCube.f a0_0 a0_1 a0_2 a1_0 a1_1 a1_2 = some r) :
    Calls Try.prog 52 #[.agg #[.int .i64 a0_0, .int .i64 a0_1, .int .i64 a0_2], .agg #[.int .i64 a1_0, .int .i64 a1_1, .int .i64 a1_2]] w fun e w' => e = .returned (.bool r) ∧ Below w.heap.size w w' := by
 (have hu69 := Try.underlying69); (have HB := A0_ (Below.refl w.heap.size w)); (have H : (if a0_0 = a1_0 then (if a0_1 = a1_1 then (if a0_2 = a1_2 then (some true) else (some false)) else (some false)) else (some false)) = some r := h); clear h; (by_cases c3 : a0_0 = a1_0)
 ·(rw [if_pos c3] at H); (have c3b0 : (a0_0 == a1_0) = true := beq_iff_eq.mpr c3); (have c3b1 : (a0_0 != a1_0) = false := bne_eq_false_iff_eq.mpr c3); clear c3; (by_cases c4 : a0_1 = a1_1)
  ·(rw [if_pos c4] at H); (have c4b0 : (a0_1 == a1_1) = true := beq_iff_eq.mpr c4); (have c4b1 : (a0_1 != a1_1) = false := bne_eq_false_iff_eq.mpr c4); clear c4; (by_cases c5 : a0_2 = a1_2)
   ·(rw [if_pos c5] at H); (have c5b0 : (a0_2 == a1_2) = true := beq_iff_eq.mpr c5); (have c5b1 : (a0_2 != a1_2) = false := bne_eq_false_iff_eq.mpr c5); clear c5; (obtain rfl := Option.some.inj H); (go_enter Try.func52, Try.ntmps52); (go_wp2_with (first | ((with_reducible refine gate_dst (N := 2) rfl ?_); refine box_event ?hg (N := 2) ?hd (cs := #[.int .i64 a0_0, .int .i64 a0_1, .int .i64 a0_2]) (t := 69) ?hr ?_; (case hd => rfl); (case hg => rfl); (case hr => first | (go_simp; done) | (go_simp; rfl)); intro gb321 hg w6 hbox hb; have n0_ := A0_ (below_step (by repeat (first | (with_reducible first | exact HB.out | apply ba_ | apply bn_ | apply bd_) | exact HB.out)) hb); have n1_ := A0_ (hbox); have n2_ := A0_ ((by rw [hg]; exact (below_size (by repeat (first | (with_reducible first | exact HB.out | apply ba_ | apply bn_ | apply bd_) | exact HB.out))) : w.heap.size ≤ gb321)); have n3_ := A0_ ((by rw [hg]; exact (below_size (by repeat (first | (with_reducible first | exact HB.out | apply ba_ | apply bn_ | apply bd_) | exact HB.out))) : w.heap.size ≤ gb321)); clear HB; have HB := n0_; have BK321 := n1_; have GW321 := n2_; have GE321 := n3_; clear n0_ n1_ n2_ n3_; clear hb hbox hg) | ((with_reducible refine gate_dst (N := 3) rfl ?_); refine box_event ?hg (N := 3) ?hd (cs := #[.int .i64 a1_0, .int .i64 a1_1, .int .i64 a1_2]) (t := 69) ?hr ?_; (case hd => rfl); (case hg => rfl); (case hr => first | (go_simp; done) | (go_simp; rfl)); intro gb322 hg w7 hbox hb; have n0_ := A0_ (blk_below (g := gb321) (o := .cells #[.int .i64 a0_0, .int .i64 a0_1, .int .i64 a0_2] 69 (0, 0)) (by (with_reducible repeat (first | apply gn_ | apply gd_ | apply ga_)); exact BK321.out) hb); have n1_ := A0_ (below_step (by repeat (first | (with_reducible first | exact HB.out | apply ba_ | apply bn_ | apply bd_ | refine below_set ?_ GE321.out) | exact HB.out)) hb); have n2_ := A0_ (hbox); have n3_ := A0_ ((by rw [hg]; exact (below_size (by repeat (first | (with_reducible first | exact HB.out | apply ba_ | apply bn_ | apply bd_ | refine below_set ?_ GE321.out) | exact HB.out))) : w.heap.size ≤ gb322)); have n4_ := A0_ ((by rw [hg]; exact (below_size (by repeat (first | (with_reducible first | exact HB.out | apply ba_ | apply bn_ | apply bd_ | refine below_set ?_ GE321.out) | exact HB.out))) : w.heap.size ≤ gb322)); have n5_ := A0_ ((by rw [hg]; exact Nat.ne_of_lt (blk_lt (g := gb321) (o := .cells #[.int .i64 a0_0, .int .i64 a0_1, .int .i64 a0_2] 69 (0, 0)) (by (with_reducible repeat (first | apply gn_ | apply gd_ | apply ga_)); exact BK321.out)) : gb321 ≠ gb322)); have n6_ := A0_ ((by rw [hg]; exact Nat.ne_of_gt (blk_lt (g := gb321) (o := .cells #[.int .i64 a0_0, .int .i64 a0_1, .int .i64 a0_2] 69 (0, 0)) (by (with_reducible repeat (first | apply gn_ | apply gd_ | apply ga_)); exact BK321.out)) : gb322 ≠ gb321)); clear BK321; clear HB; have BK321 := n0_; have HB := n1_; have BK322 := n2_; have GW322 := n3_; have GE322 := n4_; have NB321_322 := n5_; have NB322_321 := n6_; clear n0_ n1_ n2_ n3_ n4_ n5_ n6_; clear hb hbox hg; have hnb8 := NB321_322.out; have hnc8 := NB322_321.out; have hcz9_0 : w7.cell? ⟨gb321, 0, none⟩ = some (.int .i64 a0_0) := (blk_cell BK321.out 0).trans rfl; have hcz9_1 : w7.cell? ⟨gb321, 1, none⟩ = some (.int .i64 a0_1) := (blk_cell BK321.out 1).trans rfl; have hcz9_2 : w7.cell? ⟨gb321, 2, none⟩ = some (.int .i64 a0_2) := (blk_cell BK321.out 2).trans rfl; have hfz9_0 := blk_frozen BK321.out 0; have hfz9_1 := blk_frozen BK321.out 1; have hfz9_2 := blk_frozen BK321.out 2; have hcz10_0 : w7.cell? ⟨gb322, 0, none⟩ = some (.int .i64 a1_0) := (blk_cell BK322.out 0).trans rfl; have hcz10_1 : w7.cell? ⟨gb322, 1, none⟩ = some (.int .i64 a1_1) := (blk_cell BK322.out 1).trans rfl; have hcz10_2 : w7.cell? ⟨gb322, 2, none⟩ = some (.int .i64 a1_2) := (blk_cell BK322.out 2).trans rfl; have hfz10_0 := blk_frozen BK322.out 0; have hfz10_1 := blk_frozen BK322.out 1; have hfz10_2 := blk_frozen BK322.out 2))); go_ret; (exact ⟨by first | rfl | (simp [errW_none, errW_some] <;> rfl) | (simp [*, errW_none, errW_some] <;> rfl), by repeat (first | (with_reducible first | exact HB.out | apply ba_ | apply bn_ | apply bd_ | refine below_set ?_ GE321.out | refine below_set ?_ GE322.out) | exact HB.out)⟩)
   ·(rw [if_neg c5] at H); (have c5b0 : (a0_2 == a1_2) = false := beq_eq_false_iff_ne.mpr c5); (have c5b1 : (a0_2 != a1_2) = true := bne_iff_ne.mpr c5); (obtain rfl := Option.some.inj H); (go_enter Try.func52, Try.ntmps52); (go_wp2_with (first | ((with_reducible refine gate_dst (N := 2) rfl ?_); refine box_event ?hg (N := 2) ?hd (cs := #[.int .i64 a0_0, .int .i64 a0_1, .int .i64 a0_2]) (t := 69) ?hr ?_; (case hd => rfl); (case hg => rfl); (case hr => first | (go_simp; done) | (go_simp; rfl)); intro gb321 hg w11 hbox hb; have n0_ := A0_ (below_step (by repeat (first | (with_reducible first | exact HB.out | apply ba_ | apply bn_ | apply bd_) | exact HB.out)) hb); have n1_ := A0_ (hbox); have n2_ := A0_ ((by rw [hg]; exact (below_size (by repeat (first | (with_reducible first | exact HB.out | apply ba_ | apply bn_ | apply bd_) | exact HB.out))) : w.heap.size ≤ gb321)); have n3_ := A0_ ((by rw [hg]; exact (below_size (by repeat (first | (with_reducible first | exact HB.out | apply ba_ | apply bn_ | apply bd_) | exact HB.out))) : w.heap.size ≤ gb321)); clear HB; have HB := n0_; have BK321 := n1_; have GW321 := n2_; have GE321 := n3_; clear n0_ n1_ n2_ n3_; clear hb hbox hg) | ((with_reducible refine gate_dst (N := 3) rfl ?_); refine box_event ?hg (N := 3) ?hd (cs := #[.int .i64 a1_0, .int .i64 a1_1, .int .i64 a1_2]) (t := 69) ?hr ?_; (case hd => rfl); (case hg => rfl); (case hr => first | (go_simp; done) | (go_simp; rfl)); intro gb322 hg w12 hbox hb; have n0_ := A0_ (blk_below (g := gb321) (o := .cells #[.int .i64 a0_0, .int .i64 a0_1, .int .i64 a0_2] 69 (0, 0)) (by (with_reducible repeat (first | apply gn_ | apply gd_ | apply ga_)); exact BK321.out) hb); have n1_ := A0_ (below_step (by repeat (first | (with_reducible first | exact HB.out | apply ba_ | apply bn_ | apply bd_ | refine below_set ?_ GE321.out) | exact HB.out)) hb); have n2_ := A0_ (hbox); have n3_ := A0_ ((by rw [hg]; exact (below_size (by repeat (first | (with_reducible first | exact HB.out | apply ba_ | apply bn_ | apply bd_ | refine below_set ?_ GE321.out) | exact HB.out))) : w.heap.size ≤ gb322)); have n4_ := A0_ ((by rw [hg]; exact (below_size (by repeat (first | (with_reducible first | exact HB.out | apply ba_ | apply bn_ | apply bd_ | refine below_set ?_ GE321.out) | exact HB.out))) : w.heap.size ≤ gb322)); have n5_ := A0_ ((by rw [hg]; exact Nat.ne_of_lt (blk_lt (g := gb321) (o := .cells #[.int .i64 a0_0, .int .i64 a0_1, .int .i64 a0_2] 69 (0, 0)) (by (with_reducible repeat (first | apply gn_ | apply gd_ | apply ga_)); exact BK321.out)) : gb321 ≠ gb322)); have n6_ := A0_ ((by rw [hg]; exact Nat.ne_of_gt (blk_lt (g := gb321) (o := .cells #[.int .i64 a0_0, .int .i64 a0_1, .int .i64 a0_2] 69 (0, 0)) (by (with_reducible repeat (first | apply gn_ | apply gd_ | apply ga_)); exact BK321.out)) : gb322 ≠ gb321)); clear BK321; clear HB; have BK321 := n0_; have HB := n1_; have BK322 := n2_; have GW322 := n3_; have GE322 := n4_; have NB321_322 := n5_; have NB322_321 := n6_; clear n0_ n1_ n2_ n3_ n4_ n5_ n6_; clear hb hbox hg; have hnb13 := NB321_322.out; have hnc13 := NB322_321.out; have hcz14_0 : w12.cell? ⟨gb321, 0, none⟩ = some (.int .i64 a0_0) := (blk_cell BK321.out 0).trans rfl; have hcz14_1 : w12.cell? ⟨gb321, 1, none⟩ = some (.int .i64 a0_1) := (blk_cell BK321.out 1).trans rfl; have hcz14_2 : w12.cell? ⟨gb321, 2, none⟩ = some (.int .i64 a0_2) := (blk_cell BK321.out 2).trans rfl; have hfz14_0 := blk_frozen BK321.out 0; have hfz14_1 := blk_frozen BK321.out 1; have hfz14_2 := blk_frozen BK321.out 2; have hcz15_0 : w12.cell? ⟨gb322, 0, none⟩ = some (.int .i64 a1_0) := (blk_cell BK322.out 0).trans rfl; have hcz15_1 : w12.cell? ⟨gb322, 1, none⟩ = some (.int .i64 a1_1) := (blk_cell BK322.out 1).trans rfl; have hcz15_2 : w12.cell? ⟨gb322, 2, none⟩ = some (.int .i64 a1_2) := (blk_cell BK322.out 2).trans rfl; have hfz15_0 := blk_frozen BK322.out 0; have hfz15_1 := blk_frozen BK322.out 1; have hfz15_2 := blk_frozen BK322.out 2))); go_ret; (exact ⟨by first | rfl | (simp [errW_none, errW_some] <;> rfl) | (simp [*, errW_none, errW_some] <;> rfl), by repeat (first | (with_reducible first | exact HB.out | apply ba_ | apply bn_ | apply bd_ | refine below_set ?_ GE321.out | refine below_set ?_ GE322.out) | exact HB.out)⟩)
  ·(rw [if_neg c4] at H); (have c4b0 : (a0_1 == a1_1) = false := beq_eq_false_iff_ne.mpr c4); (have c4b1 : (a0_1 != a1_1) = true := bne_iff_ne.mpr c4); (obtain rfl := Option.some.inj H); (go_enter Try.func52, Try.ntmps52); (go_wp2_with (first | ((with_reducible refine gate_dst (N := 2) rfl ?_); refine box_event ?hg (N := 2) ?hd (cs := #[.int .i64 a0_0, .int .i64 a0_1, .int .i64 a0_2]) (t := 69) ?hr ?_; (case hd => rfl); (case hg => rfl); (case hr => first | (go_simp; done) | (go_simp; rfl)); intro gb321 hg w16 hbox hb; have n0_ := A0_ (below_step (by repeat (first | (with_reducible first | exact HB.out | apply ba_ | apply bn_ | apply bd_) | exact HB.out)) hb); have n1_ := A0_ (hbox); have n2_ := A0_ ((by rw [hg]; exact (below_size (by repeat (first | (with_reducible first | exact HB.out | apply ba_ | apply bn_ | apply bd_) | exact HB.out))) : w.heap.size ≤ gb321)); have n3_ := A0_ ((by rw [hg]; exact (below_size (by repeat (first | (with_reducible first | exact HB.out | apply ba_ | apply bn_ | apply bd_) | exact HB.out))) : w.heap.size ≤ gb321)); clear HB; have HB := n0_; have BK321 := n1_; have GW321 := n2_; have GE321 := n3_; clear n0_ n1_ n2_ n3_; clear hb hbox hg) | ((with_reducible refine gate_dst (N := 3) rfl ?_); refine box_event ?hg (N := 3) ?hd (cs := #[.int .i64 a1_0, .int .i64 a1_1, .int .i64 a1_2]) (t := 69) ?hr ?_; (case hd => rfl); (case hg => rfl); (case hr => first | (go_simp; done) | (go_simp; rfl)); intro gb322 hg w17 hbox hb; have n0_ := A0_ (blk_below (g := gb321) (o := .cells #[.int .i64 a0_0, .int .i64 a0_1, .int .i64 a0_2] 69 (0, 0)) (by (with_reducible repeat (first | apply gn_ | apply gd_ | apply ga_)); exact BK321.out) hb); have n1_ := A0_ (below_step (by repeat (first | (with_reducible first | exact HB.out | apply ba_ | apply bn_ | apply bd_ | refine below_set ?_ GE321.out) | exact HB.out)) hb); have n2_ := A0_ (hbox); have n3_ := A0_ ((by rw [hg]; exact (below_size (by repeat (first | (with_reducible first | exact HB.out | apply ba_ | apply bn_ | apply bd_ | refine below_set ?_ GE321.out) | exact HB.out))) : w.heap.size ≤ gb322)); have n4_ := A0_ ((by rw [hg]; exact (below_size (by repeat (first | (with_reducible first | exact HB.out | apply ba_ | apply bn_ | apply bd_ | refine below_set ?_ GE321.out) | exact HB.out))) : w.heap.size ≤ gb322)); have n5_ := A0_ ((by rw [hg]; exact Nat.ne_of_lt (blk_lt (g := gb321) (o := .cells #[.int .i64 a0_0, .int .i64 a0_1, .int .i64 a0_2] 69 (0, 0)) (by (with_reducible repeat (first | apply gn_ | apply gd_ | apply ga_)); exact BK321.out)) : gb321 ≠ gb322)); have n6_ := A0_ ((by rw [hg]; exact Nat.ne_of_gt (blk_lt (g := gb321) (o := .cells #[.int .i64 a0_0, .int .i64 a0_1, .int .i64 a0_2] 69 (0, 0)) (by (with_reducible repeat (first | apply gn_ | apply gd_ | apply ga_)); exact BK321.out)) : gb322 ≠ gb321)); clear BK321; clear HB; have BK321 := n0_; have HB := n1_; have BK322 := n2_; have GW322 := n3_; have GE322 := n4_; have NB321_322 := n5_; have NB322_321 := n6_; clear n0_ n1_ n2_ n3_ n4_ n5_ n6_; clear hb hbox hg; have hnb18 := NB321_322.out; have hnc18 := NB322_321.out; have hcz19_0 : w17.cell? ⟨gb321, 0, none⟩ = some (.int .i64 a0_0) := (blk_cell BK321.out 0).trans rfl; have hcz19_1 : w17.cell? ⟨gb321, 1, none⟩ = some (.int .i64 a0_1) := (blk_cell BK321.out 1).trans rfl; have hcz19_2 : w17.cell? ⟨gb321, 2, none⟩ = some (.int .i64 a0_2) := (blk_cell BK321.out 2).trans rfl; have hfz19_0 := blk_frozen BK321.out 0; have hfz19_1 := blk_frozen BK321.out 1; have hfz19_2 := blk_frozen BK321.out 2; have hcz20_0 : w17.cell? ⟨gb322, 0, none⟩ = some (.int .i64 a1_0) := (blk_cell BK322.out 0).trans rfl; have hcz20_1 : w17.cell? ⟨gb322, 1, none⟩ = some (.int .i64 a1_1) := (blk_cell BK322.out 1).trans rfl; have hcz20_2 : w17.cell? ⟨gb322, 2, none⟩ = some (.int .i64 a1_2) := (blk_cell BK322.out 2).trans rfl; have hfz20_0 := blk_frozen BK322.out 0; have hfz20_1 := blk_frozen BK322.out 1; have hfz20_2 := blk_frozen BK322.out 2))); go_ret; (exact ⟨by first | rfl | (simp [errW_none, errW_some] <;> rfl) | (simp [*, errW_none, errW_some] <;> rfl), by repeat (first | (with_reducible first | exact HB.out | apply ba_ | apply bn_ | apply bd_ | refine below_set ?_ GE321.out | refine below_set ?_ GE322.out) | exact HB.out)⟩)
 ·(rw [if_neg c3] at H); (have c3b0 : (a0_0 == a1_0) = false := beq_eq_false_iff_ne.mpr c3); (have c3b1 : (a0_0 != a1_0) = true := bne_iff_ne.mpr c3); (obtain rfl := Option.some.inj H); (go_enter Try.func52, Try.ntmps52); (go_wp2_with (first | ((with_reducible refine gate_dst (N := 2) rfl ?_); refine box_event ?hg (N := 2) ?hd (cs := #[.int .i64 a0_0, .int .i64 a0_1, .int .i64 a0_2]) (t := 69) ?hr ?_; (case hd => rfl); (case hg => rfl); (case hr => first | (go_simp; done) | (go_simp; rfl)); intro gb321 hg w21 hbox hb; have n0_ := A0_ (below_step (by repeat (first | (with_reducible first | exact HB.out | apply ba_ | apply bn_ | apply bd_) | exact HB.out)) hb); have n1_ := A0_ (hbox); have n2_ := A0_ ((by rw [hg]; exact (below_size (by repeat (first | (with_reducible first | exact HB.out | apply ba_ | apply bn_ | apply bd_) | exact HB.out))) : w.heap.size ≤ gb321)); have n3_ := A0_ ((by rw [hg]; exact (below_size (by repeat (first | (with_reducible first | exact HB.out | apply ba_ | apply bn_ | apply bd_) | exact HB.out))) : w.heap.size ≤ gb321)); clear HB; have HB := n0_; have BK321 := n1_; have GW321 := n2_; have GE321 := n3_; clear n0_ n1_ n2_ n3_; clear hb hbox hg) | ((with_reducible refine gate_dst (N := 3) rfl ?_); refine box_event ?hg (N := 3) ?hd (cs := #[.int .i64 a1_0, .int .i64 a1_1, .int .i64 a1_2]) (t := 69) ?hr ?_; (case hd => rfl); (case hg => rfl); (case hr => first | (go_simp; done) | (go_simp; rfl)); intro gb322 hg w22 hbox hb; have n0_ := A0_ (blk_below (g := gb321) (o := .cells #[.int .i64 a0_0, .int .i64 a0_1, .int .i64 a0_2] 69 (0, 0)) (by (with_reducible repeat (first | apply gn_ | apply gd_ | apply ga_)); exact BK321.out) hb); have n1_ := A0_ (below_step (by repeat (first | (with_reducible first | exact HB.out | apply ba_ | apply bn_ | apply bd_ | refine below_set ?_ GE321.out) | exact HB.out)) hb); have n2_ := A0_ (hbox); have n3_ := A0_ ((by rw [hg]; exact (below_size (by repeat (first | (with_reducible first | exact HB.out | apply ba_ | apply bn_ | apply bd_ | refine below_set ?_ GE321.out) | exact HB.out))) : w.heap.size ≤ gb322)); have n4_ := A0_ ((by rw [hg]; exact (below_size (by repeat (first | (with_reducible first | exact HB.out | apply ba_ | apply bn_ | apply bd_ | refine below_set ?_ GE321.out) | exact HB.out))) : w.heap.size ≤ gb322)); have n5_ := A0_ ((by rw [hg]; exact Nat.ne_of_lt (blk_lt (g := gb321) (o := .cells #[.int .i64 a0_0, .int .i64 a0_1, .int .i64 a0_2] 69 (0, 0)) (by (with_reducible repeat (first | apply gn_ | apply gd_ | apply ga_)); exact BK321.out)) : gb321 ≠ gb322)); have n6_ := A0_ ((by rw [hg]; exact Nat.ne_of_gt (blk_lt (g := gb321) (o := .cells #[.int .i64 a0_0, .int .i64 a0_1, .int .i64 a0_2] 69 (0, 0)) (by (with_reducible repeat (first | apply gn_ | apply gd_ | apply ga_)); exact BK321.out)) : gb322 ≠ gb321)); clear BK321; clear HB; have BK321 := n0_; have HB := n1_; have BK322 := n2_; have GW322 := n3_; have GE322 := n4_; have NB321_322 := n5_; have NB322_321 := n6_; clear n0_ n1_ n2_ n3_ n4_ n5_ n6_; clear hb hbox hg; have hnb23 := NB321_322.out; have hnc23 := NB322_321.out; have hcz24_0 : w22.cell? ⟨gb321, 0, none⟩ = some (.int .i64 a0_0) := (blk_cell BK321.out 0).trans rfl; have hcz24_1 : w22.cell? ⟨gb321, 1, none⟩ = some (.int .i64 a0_1) := (blk_cell BK321.out 1).trans rfl; have hcz24_2 : w22.cell? ⟨gb321, 2, none⟩ = some (.int .i64 a0_2) := (blk_cell BK321.out 2).trans rfl; have hfz24_0 := blk_frozen BK321.out 0; have hfz24_1 := blk_frozen BK321.out 1; have hfz24_2 := blk_frozen BK321.out 2; have hcz25_0 : w22.cell? ⟨gb322, 0, none⟩ = some (.int .i64 a1_0) := (blk_cell BK322.out 0).trans rfl; have hcz25_1 : w22.cell? ⟨gb322, 1, none⟩ = some (.int .i64 a1_1) := (blk_cell BK322.out 1).trans rfl; have hcz25_2 : w22.cell? ⟨gb322, 2, none⟩ = some (.int .i64 a1_2) := (blk_cell BK322.out 2).trans rfl; have hfz25_0 := blk_frozen BK322.out 0; have hfz25_1 := blk_frozen BK322.out 1; have hfz25_2 := blk_frozen BK322.out 2))); go_ret; (exact ⟨by first | rfl | (simp [errW_none, errW_some] <;> rfl) | (simp [*, errW_none, errW_some] <;> rfl), by repeat (first | (with_reducible first | exact HB.out | apply ba_ | apply bn_ | apply bd_ | refine below_set ?_ GE321.out | refine below_set ?_ GE322.out) | exact HB.out)⟩)
end Go.Proofs.Ytlbckkagjekhnaa.A

namespace Go.Proofs.Ytlbckkagjekhnaa.A
open Go.RowKit Go.Proofs.YtlbckkagjekhnaaW.PrintWords Go.Proofs.YtlbckkagjekhnaaW.PrintLast Go.Proofs.YtlbckkagjekhnaaW.PrintMore
attribute [local go_sem] max2_int min2_int max_two min_two max_three min_three max_four min_four   -- for this text's walks alone
set_option linter.unusedVariables false
set_option linter.unusedSimpArgs false
def laws_eqCubeS.l0 : Nat → List (S69) → List (S69) → Int → Option (Bool)
  | 0, _, _, _ => none
  | k + 1, x0, x1, x5 => if x5 < (x0.length : Int) then (if 0 ≤ x5 then (if x5 < (x1.length : Int) then ((laws_eqCube.f ((rd_T69 x0 x5).f0) ((rd_T69 x0 x5).f1) ((rd_T69 x0 x5).f2) ((rd_T69 x1 x5).f0) ((rd_T69 x1 x5).f1) ((rd_T69 x1 x5).f2)).bind fun t325 => (if t325 = true then (laws_eqCubeS.l0 k x0 x1 (wrap64 (x5 + 1))) else (some false))) else (none)) else (none)) else (some true)
def laws_eqCubeS.f (k : Nat) (l0 : List (S69)) (l1 : List (S69)) : Option (Bool) := if (l0.length : Int) = (l1.length : Int) then (laws_eqCubeS.l0 k l0 l1 0) else (some false)
def laws_eqCubeS.T6 : Bool × List (List Nat × List Nat) := (true, [([], []), ([], []), ([0, 1], [0, 1]), ([2], [2]), ([], []), ([], []), ([4, 5], [4, 5]), ([6], [6]), ([3, 7], [3, 7]), ([8], [8])])
def laws_eqCubeS.B6 : List Nat := [0, 0, 3, 7, 0, 0, 48, 112, 255, 511]
theorem laws_eqCubeS.tab6 : rtab .any (opsOf Try.f18 6) = laws_eqCubeS.T6 := by kernel_rfl
theorem laws_eqCubeS.bits6 : waitsOk laws_eqCubeS.T6.2 laws_eqCubeS.B6 = true := by kernel_rfl
set_option maxHeartbeats 8000000 in
set_option maxRecDepth 100000 in
theorem laws_eqCubeS.calls (k : Nat) (A0 : Option Addr) (c0 : Nat) (l0 : List (S69)) (A1 : Option Addr) (c1 : Nat) (l1 : List (S69)) (r : Bool) (w : World) (hr0 : Kd.C k69 w A0 l0.length l0) (hc0 : l0.length ≤ c0) (hr1 : Kd.C k69 w A1 l1.length l1) (hc1 : l1.length ≤ c1) (h : laws_eqCubeS.f k l0 l1 = some r) :
    Calls Try.prog 18 #[.slice A0 l0.length c0, .slice A1 l1.length c1] w fun e w' => e = .returned (.bool r) ∧ Below w.heap.size w w' := by
 (have hu69 := Try.underlying69); (have HR0 := A0_ hr0); (have HC0 := A0_ hc0); clear hr0 hc0; (have HR1 := A0_ hr1); (have HC1 := A0_ hc1); clear hr1 hc1; (have HB := A0_ (Below.refl w.heap.size w)); (have H : (if (l0.length : Int) = (l1.length : Int) then (laws_eqCubeS.l0 k l0 l1 0) else (some false)) = some r := h); clear h; (by_cases c3 : (l0.length : Int) = (l1.length : Int))
 ·(rw [if_pos c3] at H); (have c3b0 : ((l0.length : Int) == (l1.length : Int)) = true := beq_iff_eq.mpr c3); (have c3b1 : ((l0.length : Int) != (l1.length : Int)) = false := bne_eq_false_iff_eq.mpr c3); (have c3b2 : (l0.length == l1.length) = true := by first | simpa using c3 | (simp at c3 ⊢; omega)); clear c3; (have H' := A0_ H); clear H; (go_enter Try.func18, Try.ntmps18); go_wp2
  go_loopg [5] k (fun kq v5 w' => ∃ (x5_1 : Int), v5 = .int .i64 x5_1 ∧ Aside0 (laws_eqCubeS.l0 kq l0 l1 x5_1 = some r) ∧ Aside0 (kq ≤ k) ∧ Aside0 (Below w.heap.size w w'))
  case atStart => exact ⟨(0), (by first | rfl | (simp; done) | (simp [*]; done)), H', ⟨Nat.le_refl _⟩, ⟨by repeat (first | (with_reducible first | exact HB.out | apply ba_ | apply bn_ | apply bd_) | exact HB.out)⟩⟩
  case round =>
   clear H'; (try clear c1); (try clear p2); (try clear c3); (try clear c3b0); (try clear c3b1); (try clear c3b2); (obtain ⟨x5_1, rfl, HA, HK1, HB⟩ := hrel)
   cases gk with
   | zero => exact absurd HA.out (by simp [laws_eqCubeS.l0])
   | succ k1 =>
    (have H := HA.out); clear HA; (simp only [laws_eqCubeS.l0] at H); (by_cases c4 : x5_1 < (l0.length : Int))
    ·(rw [if_pos c4] at H); (have c4b0 : decide (x5_1 < (l0.length : Int)) = true := decide_eq_true c4); clear c4; (by_cases c5 : 0 ≤ x5_1)
     ·(rw [if_pos c5] at H); (have c5b0 : decide (0 ≤ x5_1) = true := decide_eq_true c5); clear c5; (by_cases c6 : x5_1 < (l1.length : Int))
      ·(rw [if_pos c6] at H); (have c6b0 : decide (x5_1 < (l1.length : Int)) = true := decide_eq_true c6); clear c6; (replace H := Option.bind_eq_some_iff.mp H); (obtain ⟨t325, A70, H⟩ := H); (try dsimp only at H); (have A7 := A0_ A70); clear A70; (by_cases c8 : t325 = true)
       ·subst c8; (have H1 := H); (rw [if_pos rfl] at H1); clear H; (have H := H1); clear H1; (have H' := A0_ H); clear H; (try go_wp2); (have n0_ := A0_ (below_drew1 HB.out)); clear HB; (have HB := n0_); clear n0_; (have p323 : 0 ≤ (x5_1 : Int) := of_decide_eq_true (by first | (with_reducible assumption) | assumption)); (have q323 : x5_1 < (l0.length : Int) := of_decide_eq_true (by first | (with_reducible assumption) | assumption)); (obtain ⟨ad323, e323, hx323_0, hx323_1, hx323_2⟩ := at_T69 HR0.out x5_1 p323 q323); (have hw323_2 := hx323_2); (have hw323_1 := hx323_1); (have hw323_0 := hx323_0); (cases e323); (replace hx323_0 := (HB.out.cell (World.block_lt_of_cell? w _ hx323_0)).trans hx323_0); (replace hx323_1 := (HB.out.cell (World.block_lt_of_cell? w _ hx323_1)).trans hx323_1); (replace hx323_2 := (HB.out.cell (World.block_lt_of_cell? w _ hx323_2)).trans hx323_2); (replace p323 := eq_true p323); (replace q323 := eq_true q323); (have p324 : 0 ≤ (x5_1 : Int) := of_decide_eq_true (by first | (with_reducible assumption) | assumption)); (have q324 : x5_1 < (l1.length : Int) := of_decide_eq_true (by first | (with_reducible assumption) | assumption)); (obtain ⟨ad324, e324, hx324_0, hx324_1, hx324_2⟩ := at_T69 HR1.out x5_1 p324 q324); (have hw324_2 := hx324_2); (have hw324_1 := hx324_1); (have hw324_0 := hx324_0); (cases e324); (replace hx324_0 := (HB.out.cell (World.block_lt_of_cell? w _ hx324_0)).trans hx324_0); (replace hx324_1 := (HB.out.cell (World.block_lt_of_cell? w _ hx324_1)).trans hx324_1); (replace hx324_2 := (HB.out.cell (World.block_lt_of_cell? w _ hx324_2)).trans hx324_2); (replace p324 := eq_true p324); (replace q324 := eq_true q324)
        refine start_ (n := 10) (S := fun w' => w'.cell? (ad323.add ((x5_1).toNat * 3)) = some (.int .i64 ((rd_T69 l0 x5_1).f0)) ∧ w'.cell? ⟨(ad323.add ((x5_1).toNat * 3)).block, (ad323.add ((x5_1).toNat * 3)).off + 1, none⟩ = some (.int .i64 ((rd_T69 l0 x5_1).f1)) ∧ w'.cell? ⟨(ad323.add ((x5_1).toNat * 3)).block, (ad323.add ((x5_1).toNat * 3)).off + 2, none⟩ = some (.int .i64 ((rd_T69 l0 x5_1).f2)) ∧ w'.cell? (ad324.add ((x5_1).toNat * 3)) = some (.int .i64 ((rd_T69 l1 x5_1).f0)) ∧ w'.cell? ⟨(ad324.add ((x5_1).toNat * 3)).block, (ad324.add ((x5_1).toNat * 3)).off + 1, none⟩ = some (.int .i64 ((rd_T69 l1 x5_1).f1)) ∧ w'.cell? ⟨(ad324.add ((x5_1).toNat * 3)).block, (ad324.add ((x5_1).toNat * 3)).off + 2, none⟩ = some (.int .i64 ((rd_T69 l1 x5_1).f2))) (ds := []) #[ff,ff,ff,ff,ff,ff,ff,ff,ff,ff] (by kernel_rfl) rfl rfl ⟨((HB.out.cell (World.block_lt_of_cell? w _ hw323_0)).trans hw323_0), ((HB.out.cell (World.block_lt_of_cell? w _ hw323_1)).trans hw323_1), ((HB.out.cell (World.block_lt_of_cell? w _ hw323_2)).trans hw323_2), ((HB.out.cell (World.block_lt_of_cell? w _ hw324_0)).trans hw324_0), ((HB.out.cell (World.block_lt_of_cell? w _ hw324_1)).trans hw324_1), ((HB.out.cell (World.block_lt_of_cell? w _ hw324_2)).trans hw324_2)⟩ (fun hHeld => ?_); refine with_tabW laws_eqCubeS.tab6 laws_eqCubeS.bits6 (fun HT_ HW_ => ?_)
        (generalize wr.drew = w9 at HB hx323_0 hx323_1 hx323_2 hx324_0 hx324_1 hx324_2 hHeld ⊢)
        refine pure_ (i := 0) (N := some 17) (v := ?_) (a' := ?_) #[tt,ff,ff,ff,ff,ff,ff,ff,ff,ff] rfl rfl (any_of HT_.out (by kernel_rfl)) (fun _ _ _ h => h) (Or.inl ⟨by rfl, ?_⟩) ?_ ?_
        rotate_left
        ·intro w'; go_simp; with_reducible rfl
        rotate_left
        ·(simp only [Act.put, sia_, sz_, ss_, i64_w, i32_w]); rfl
        refine pure_ (i := 1) (N := some 18) (v := ?_) (a' := ?_) #[tt,tt,ff,ff,ff,ff,ff,ff,ff,ff] rfl rfl (any_of HT_.out (by kernel_rfl)) (fun _ _ _ h => h) (Or.inl ⟨by rfl, ?_⟩) ?_ ?_
        rotate_left
        ·intro w'; go_simp; with_reducible rfl
        rotate_left
        ·(simp only [Act.put, sia_, sz_, ss_, i64_w, i32_w]); rfl
        refine pure_ (i := 2) (N := some 19) (v := ?_) (a' := ?_) #[tt,tt,tt,ff,ff,ff,ff,ff,ff,ff] rfl rfl (any_of HT_.out (by kernel_rfl)) (fun _ _ _ h => h) (Or.inl ⟨by rfl, ?_⟩) ?_ ?_
        rotate_left
        ·intro w'; go_simp; with_reducible rfl
        rotate_left
        ·(simp only [Act.put, sia_, sz_, ss_, i64_w, i32_w]); rfl
        refine pure_ (i := 4) (N := some 21) (v := ?_) (a' := ?_) #[tt,tt,tt,ff,tt,ff,ff,ff,ff,ff] rfl rfl (any_of HT_.out (by kernel_rfl)) (fun _ _ _ h => h) (Or.inl ⟨by rfl, ?_⟩) ?_ ?_
        rotate_left
        ·intro w'; go_simp; with_reducible rfl
        rotate_left
        ·(simp only [Act.put, sia_, sz_, ss_, i64_w, i32_w]); rfl
        refine pure_ (i := 5) (N := some 22) (v := ?_) (a' := ?_) #[tt,tt,tt,ff,tt,tt,ff,ff,ff,ff] rfl rfl (any_of HT_.out (by kernel_rfl)) (fun _ _ _ h => h) (Or.inl ⟨by rfl, ?_⟩) ?_ ?_
        rotate_left
        ·intro w'; go_simp; with_reducible rfl
        rotate_left
        ·(simp only [Act.put, sia_, sz_, ss_, i64_w, i32_w]); rfl
        refine pure_ (i := 6) (N := some 23) (v := ?_) (a' := ?_) #[tt,tt,tt,ff,tt,tt,tt,ff,ff,ff] rfl rfl (any_of HT_.out (by kernel_rfl)) (fun _ _ _ h => h) (Or.inl ⟨by rfl, ?_⟩) ?_ ?_
        rotate_left
        ·intro w'; go_simp; with_reducible rfl
        rotate_left
        ·(simp only [Act.put, sia_, sz_, ss_, i64_w, i32_w]); rfl
        refine take_ (i := 3) (N := some 20) (v := ?_) (a' := ?_) #[tt,tt,tt,tt,tt,tt,tt,ff,ff,ff] rfl rfl (take_ofW HT_.out HW_.out (by kernel_rfl)) (fun _ _ _ h => h) (Or.inl ⟨by rfl, ?_⟩) hHeld ?_ ?_
        rotate_left
        ·(rintro w' ⟨s0, s1, s2, s3, s4, s5⟩); go_simp; with_reducible rfl
        rotate_left
        ·(simp only [Act.put, sia_, sz_, ss_, i64_w, i32_w]); rfl
        refine take_ (i := 7) (N := some 24) (v := ?_) (a' := ?_) #[tt,tt,tt,tt,tt,tt,tt,tt,ff,ff] rfl rfl (take_ofW HT_.out HW_.out (by kernel_rfl)) (fun _ _ _ h => h) (Or.inl ⟨by rfl, ?_⟩) hHeld ?_ ?_
        rotate_left
        ·(rintro w' ⟨s0, s1, s2, s3, s4, s5⟩); go_simp; with_reducible rfl
        rotate_left
        ·(simp only [Act.put, sia_, sz_, ss_, i64_w, i32_w]); rfl
        refine one_ (i := 8) (N := some 25) #[tt,tt,tt,tt,tt,tt,tt,tt,tt,ff] rfl rfl (one_of HT_.out (by kernel_rfl)) (by decide) (fun K hK => ?_)
        (refine goes_ Try.func52 (by kernel_rfl) rfl #[.agg #[.int .i64 ((rd_T69 l0 x5_1).f0), .int .i64 ((rd_T69 l0 x5_1).f1), .int .i64 ((rd_T69 l0 x5_1).f2)], .agg #[.int .i64 ((rd_T69 l1 x5_1).f0), .int .i64 ((rd_T69 l1 x5_1).f1), .int .i64 ((rd_T69 l1 x5_1).f2)]] (by rfl) rfl rfl (by (try simp only [List.map_toArray, List.map_cons, List.map_nil]); first | done | rfl | (simp only [List.length_drop, List.length_take]; rfl)) ?_); (with_reducible refine (laws_eqCube.calls ((rd_T69 l0 x5_1).f0) ((rd_T69 l0 x5_1).f1) ((rd_T69 l0 x5_1).f2) ((rd_T69 l1 x5_1).f0) ((rd_T69 l1 x5_1).f1) ((rd_T69 l1 x5_1).f2) true _ A7.out).mono ?_); (rintro e w10 ⟨rfl, hb⟩); (refine ⟨_, rfl, ?_⟩); (have n0_ := A0_ (below_step (by repeat (first | (with_reducible first | exact HB.out | apply ba_ | apply bn_ | apply bd_) | exact HB.out)) hb)); clear HB; (have HB := n0_); clear n0_; ((try clear hb)); ((try clear hb2)); ((try clear hk)); ((try clear hi))
        refine hK.out _ _ ⟨((HB.out.cell (World.block_lt_of_cell? w _ hw323_0)).trans hw323_0), ((HB.out.cell (World.block_lt_of_cell? w _ hw323_1)).trans hw323_1), ((HB.out.cell (World.block_lt_of_cell? w _ hw323_2)).trans hw323_2), ((HB.out.cell (World.block_lt_of_cell? w _ hw324_0)).trans hw324_0), ((HB.out.cell (World.block_lt_of_cell? w _ hw324_1)).trans hw324_1), ((HB.out.cell (World.block_lt_of_cell? w _ hw324_2)).trans hw324_2)⟩ (fun hHeld => ?_)
        clear hK K; (refine norm_ (a' := ?_) ?_ ?_); rotate_left
        ·(show Act.put _ (some 25) _ = _); (simp only [Act.put, sia_, sz_, ss_, i64_w, i32_w]); rfl
        refine pure_ (i := 9) (N := some 26) (v := ?_) (a' := ?_) #[tt,tt,tt,tt,tt,tt,tt,tt,tt,tt] rfl rfl (any_of HT_.out (by kernel_rfl)) (fun _ _ _ h => h) (Or.inl ⟨by rfl, ?_⟩) ?_ ?_
        rotate_left
        ·intro w'; go_simp; with_reducible rfl
        rotate_left
        ·(simp only [Act.put, sia_, sz_, ss_, i64_w, i32_w]); rfl
        (refine done_ (done_of HT_.out (by kernel_rfl)) ?_); (try go_wp2); (go_roundg k1)
        case measure => have := HK1.out; omega
        case rel => exact ⟨(wrap64 (x5_1 + 1)), (by first | rfl | (simp; done) | (simp [*]; done)), H', ⟨by have := HK1.out; omega⟩, ⟨by repeat (first | (with_reducible first | exact HB.out | apply ba_ | apply bn_ | apply bd_) | exact HB.out)⟩⟩
       ·(replace c8 := Bool.eq_false_iff.mpr c8); subst c8; (have H1 : (some false) = some r := by rw [if_neg (show ¬ (false = true) by decide)] at H; exact H); clear H; (have H := H1); clear H1; (obtain rfl := Option.some.inj H); (try go_wp2); (have n0_ := A0_ (below_drew1 HB.out)); clear HB; (have HB := n0_); clear n0_; (have p323 : 0 ≤ (x5_1 : Int) := of_decide_eq_true (by first | (with_reducible assumption) | assumption)); (have q323 : x5_1 < (l0.length : Int) := of_decide_eq_true (by first | (with_reducible assumption) | assumption)); (obtain ⟨ad323, e323, hx323_0, hx323_1, hx323_2⟩ := at_T69 HR0.out x5_1 p323 q323); (have hw323_2 := hx323_2); (have hw323_1 := hx323_1); (have hw323_0 := hx323_0); (cases e323); (replace hx323_0 := (HB.out.cell (World.block_lt_of_cell? w _ hx323_0)).trans hx323_0); (replace hx323_1 := (HB.out.cell (World.block_lt_of_cell? w _ hx323_1)).trans hx323_1); (replace hx323_2 := (HB.out.cell (World.block_lt_of_cell? w _ hx323_2)).trans hx323_2); (replace p323 := eq_true p323); (replace q323 := eq_true q323); (have p324 : 0 ≤ (x5_1 : Int) := of_decide_eq_true (by first | (with_reducible assumption) | assumption)); (have q324 : x5_1 < (l1.length : Int) := of_decide_eq_true (by first | (with_reducible assumption) | assumption)); (obtain ⟨ad324, e324, hx324_0, hx324_1, hx324_2⟩ := at_T69 HR1.out x5_1 p324 q324); (have hw324_2 := hx324_2); (have hw324_1 := hx324_1); (have hw324_0 := hx324_0); (cases e324); (replace hx324_0 := (HB.out.cell (World.block_lt_of_cell? w _ hx324_0)).trans hx324_0); (replace hx324_1 := (HB.out.cell (World.block_lt_of_cell? w _ hx324_1)).trans hx324_1); (replace hx324_2 := (HB.out.cell (World.block_lt_of_cell? w _ hx324_2)).trans hx324_2); (replace p324 := eq_true p324); (replace q324 := eq_true q324)
        refine start_ (n := 10) (S := fun w' => w'.cell? (ad323.add ((x5_1).toNat * 3)) = some (.int .i64 ((rd_T69 l0 x5_1).f0)) ∧ w'.cell? ⟨(ad323.add ((x5_1).toNat * 3)).block, (ad323.add ((x5_1).toNat * 3)).off + 1, none⟩ = some (.int .i64 ((rd_T69 l0 x5_1).f1)) ∧ w'.cell? ⟨(ad323.add ((x5_1).toNat * 3)).block, (ad323.add ((x5_1).toNat * 3)).off + 2, none⟩ = some (.int .i64 ((rd_T69 l0 x5_1).f2)) ∧ w'.cell? (ad324.add ((x5_1).toNat * 3)) = some (.int .i64 ((rd_T69 l1 x5_1).f0)) ∧ w'.cell? ⟨(ad324.add ((x5_1).toNat * 3)).block, (ad324.add ((x5_1).toNat * 3)).off + 1, none⟩ = some (.int .i64 ((rd_T69 l1 x5_1).f1)) ∧ w'.cell? ⟨(ad324.add ((x5_1).toNat * 3)).block, (ad324.add ((x5_1).toNat * 3)).off + 2, none⟩ = some (.int .i64 ((rd_T69 l1 x5_1).f2))) (ds := []) #[ff,ff,ff,ff,ff,ff,ff,ff,ff,ff] (by kernel_rfl) rfl rfl ⟨((HB.out.cell (World.block_lt_of_cell? w _ hw323_0)).trans hw323_0), ((HB.out.cell (World.block_lt_of_cell? w _ hw323_1)).trans hw323_1), ((HB.out.cell (World.block_lt_of_cell? w _ hw323_2)).trans hw323_2), ((HB.out.cell (World.block_lt_of_cell? w _ hw324_0)).trans hw324_0), ((HB.out.cell (World.block_lt_of_cell? w _ hw324_1)).trans hw324_1), ((HB.out.cell (World.block_lt_of_cell? w _ hw324_2)).trans hw324_2)⟩ (fun hHeld => ?_); refine with_tabW laws_eqCubeS.tab6 laws_eqCubeS.bits6 (fun HT_ HW_ => ?_)
        (generalize wr.drew = w11 at HB hx323_0 hx323_1 hx323_2 hx324_0 hx324_1 hx324_2 hHeld ⊢)
        refine pure_ (i := 0) (N := some 17) (v := ?_) (a' := ?_) #[tt,ff,ff,ff,ff,ff,ff,ff,ff,ff] rfl rfl (any_of HT_.out (by kernel_rfl)) (fun _ _ _ h => h) (Or.inl ⟨by rfl, ?_⟩) ?_ ?_
        rotate_left
        ·intro w'; go_simp; with_reducible rfl
        rotate_left
        ·(simp only [Act.put, sia_, sz_, ss_, i64_w, i32_w]); rfl
        refine pure_ (i := 1) (N := some 18) (v := ?_) (a' := ?_) #[tt,tt,ff,ff,ff,ff,ff,ff,ff,ff] rfl rfl (any_of HT_.out (by kernel_rfl)) (fun _ _ _ h => h) (Or.inl ⟨by rfl, ?_⟩) ?_ ?_
        rotate_left
        ·intro w'; go_simp; with_reducible rfl
        rotate_left
        ·(simp only [Act.put, sia_, sz_, ss_, i64_w, i32_w]); rfl
        refine pure_ (i := 2) (N := some 19) (v := ?_) (a' := ?_) #[tt,tt,tt,ff,ff,ff,ff,ff,ff,ff] rfl rfl (any_of HT_.out (by kernel_rfl)) (fun _ _ _ h => h) (Or.inl ⟨by rfl, ?_⟩) ?_ ?_
        rotate_left
        ·intro w'; go_simp; with_reducible rfl
        rotate_left
        ·(simp only [Act.put, sia_, sz_, ss_, i64_w, i32_w]); rfl
        refine pure_ (i := 4) (N := some 21) (v := ?_) (a' := ?_) #[tt,tt,tt,ff,tt,ff,ff,ff,ff,ff] rfl rfl (any_of HT_.out (by kernel_rfl)) (fun _ _ _ h => h) (Or.inl ⟨by rfl, ?_⟩) ?_ ?_
        rotate_left
        ·intro w'; go_simp; with_reducible rfl
        rotate_left
        ·(simp only [Act.put, sia_, sz_, ss_, i64_w, i32_w]); rfl
        refine pure_ (i := 5) (N := some 22) (v := ?_) (a' := ?_) #[tt,tt,tt,ff,tt,tt,ff,ff,ff,ff] rfl rfl (any_of HT_.out (by kernel_rfl)) (fun _ _ _ h => h) (Or.inl ⟨by rfl, ?_⟩) ?_ ?_
        rotate_left
        ·intro w'; go_simp; with_reducible rfl
        rotate_left
        ·(simp only [Act.put, sia_, sz_, ss_, i64_w, i32_w]); rfl
        refine pure_ (i := 6) (N := some 23) (v := ?_) (a' := ?_) #[tt,tt,tt,ff,tt,tt,tt,ff,ff,ff] rfl rfl (any_of HT_.out (by kernel_rfl)) (fun _ _ _ h => h) (Or.inl ⟨by rfl, ?_⟩) ?_ ?_
        rotate_left
        ·intro w'; go_simp; with_reducible rfl
        rotate_left
        ·(simp only [Act.put, sia_, sz_, ss_, i64_w, i32_w]); rfl
        refine take_ (i := 3) (N := some 20) (v := ?_) (a' := ?_) #[tt,tt,tt,tt,tt,tt,tt,ff,ff,ff] rfl rfl (take_ofW HT_.out HW_.out (by kernel_rfl)) (fun _ _ _ h => h) (Or.inl ⟨by rfl, ?_⟩) hHeld ?_ ?_
        rotate_left
        ·(rintro w' ⟨s0, s1, s2, s3, s4, s5⟩); go_simp; with_reducible rfl
        rotate_left
        ·(simp only [Act.put, sia_, sz_, ss_, i64_w, i32_w]); rfl
        refine take_ (i := 7) (N := some 24) (v := ?_) (a' := ?_) #[tt,tt,tt,tt,tt,tt,tt,tt,ff,ff] rfl rfl (take_ofW HT_.out HW_.out (by kernel_rfl)) (fun _ _ _ h => h) (Or.inl ⟨by rfl, ?_⟩) hHeld ?_ ?_
        rotate_left
        ·(rintro w' ⟨s0, s1, s2, s3, s4, s5⟩); go_simp; with_reducible rfl
        rotate_left
        ·(simp only [Act.put, sia_, sz_, ss_, i64_w, i32_w]); rfl
        refine one_ (i := 8) (N := some 25) #[tt,tt,tt,tt,tt,tt,tt,tt,tt,ff] rfl rfl (one_of HT_.out (by kernel_rfl)) (by decide) (fun K hK => ?_)
        (refine goes_ Try.func52 (by kernel_rfl) rfl #[.agg #[.int .i64 ((rd_T69 l0 x5_1).f0), .int .i64 ((rd_T69 l0 x5_1).f1), .int .i64 ((rd_T69 l0 x5_1).f2)], .agg #[.int .i64 ((rd_T69 l1 x5_1).f0), .int .i64 ((rd_T69 l1 x5_1).f1), .int .i64 ((rd_T69 l1 x5_1).f2)]] (by rfl) rfl rfl (by (try simp only [List.map_toArray, List.map_cons, List.map_nil]); first | done | rfl | (simp only [List.length_drop, List.length_take]; rfl)) ?_); (with_reducible refine (laws_eqCube.calls ((rd_T69 l0 x5_1).f0) ((rd_T69 l0 x5_1).f1) ((rd_T69 l0 x5_1).f2) ((rd_T69 l1 x5_1).f0) ((rd_T69 l1 x5_1).f1) ((rd_T69 l1 x5_1).f2) false _ A7.out).mono ?_); (rintro e w12 ⟨rfl, hb⟩); (refine ⟨_, rfl, ?_⟩); (have n0_ := A0_ (below_step (by repeat (first | (with_reducible first | exact HB.out | apply ba_ | apply bn_ | apply bd_) | exact HB.out)) hb)); clear HB; (have HB := n0_); clear n0_; ((try clear hb)); ((try clear hb2)); ((try clear hk)); ((try clear hi))
        refine hK.out _ _ ⟨((HB.out.cell (World.block_lt_of_cell? w _ hw323_0)).trans hw323_0), ((HB.out.cell (World.block_lt_of_cell? w _ hw323_1)).trans hw323_1), ((HB.out.cell (World.block_lt_of_cell? w _ hw323_2)).trans hw323_2), ((HB.out.cell (World.block_lt_of_cell? w _ hw324_0)).trans hw324_0), ((HB.out.cell (World.block_lt_of_cell? w _ hw324_1)).trans hw324_1), ((HB.out.cell (World.block_lt_of_cell? w _ hw324_2)).trans hw324_2)⟩ (fun hHeld => ?_)
        clear hK K; (refine norm_ (a' := ?_) ?_ ?_); rotate_left
        ·(show Act.put _ (some 25) _ = _); (simp only [Act.put, sia_, sz_, ss_, i64_w, i32_w]); rfl
        refine pure_ (i := 9) (N := some 26) (v := ?_) (a' := ?_) #[tt,tt,tt,tt,tt,tt,tt,tt,tt,tt] rfl rfl (any_of HT_.out (by kernel_rfl)) (fun _ _ _ h => h) (Or.inl ⟨by rfl, ?_⟩) ?_ ?_
        rotate_left
        ·intro w'; go_simp; with_reducible rfl
        rotate_left
        ·(simp only [Act.put, sia_, sz_, ss_, i64_w, i32_w]); rfl
        (refine done_ (done_of HT_.out (by kernel_rfl)) ?_); (try go_wp2); go_ret; (exact ⟨by first | rfl | (simp [errW_none, errW_some] <;> rfl) | (simp [*, errW_none, errW_some] <;> rfl), by repeat (first | (with_reducible first | exact HB.out | apply ba_ | apply bn_ | apply bd_) | exact HB.out)⟩)
      ·(rw [if_neg c6] at H); (exact absurd H (by simp))
     ·(rw [if_neg c5] at H); (exact absurd H (by simp))
    ·(rw [if_neg c4] at H); (have c4b0 : decide (x5_1 < (l0.length : Int)) = false := decide_eq_false c4); clear c4; (obtain rfl := Option.some.inj H); go_wp2; go_ret; (exact ⟨by first | rfl | (simp [errW_none, errW_some] <;> rfl) | (simp [*, errW_none, errW_some] <;> rfl), by repeat (first | (with_reducible first | exact HB.out | apply ba_ | apply bn_ | apply bd_) | exact HB.out)⟩)
 ·(rw [if_neg c3] at H); (have c3b0 : ((l0.length : Int) == (l1.length : Int)) = false := beq_eq_false_iff_ne.mpr c3); (have c3b1 : ((l0.length : Int) != (l1.length : Int)) = true := bne_iff_ne.mpr c3); (have c3b2 : (l0.length == l1.length) = false := by first | simpa using c3 | (simp at c3 ⊢; omega)); (obtain rfl := Option.some.inj H); (go_enter Try.func18, Try.ntmps18); go_wp2; go_ret; (exact ⟨by first | rfl | (simp [errW_none, errW_some] <;> rfl) | (simp [*, errW_none, errW_some] <;> rfl), by repeat (first | (with_reducible first | exact HB.out | apply ba_ | apply bn_ | apply bd_) | exact HB.out)⟩)
end Go.Proofs.Ytlbckkagjekhnaa.A

namespace Go.Proofs.Ytlbckkagjekhnaa.A
open Go.RowKit Go.Proofs.YtlbckkagjekhnaaW.PrintWords Go.Proofs.YtlbckkagjekhnaaW.PrintLast Go.Proofs.YtlbckkagjekhnaaW.PrintMore
attribute [local go_sem] max2_int min2_int max_two min_two max_three min_three max_four min_four   -- for this text's walks alone
set_option linter.unusedVariables false
set_option linter.unusedSimpArgs false
def laws_eqCubeSS.l0 : Nat → List (List (S69)) → List (List (S69)) → Int → Option (Bool)
  | 0, _, _, _ => none
  | k + 1, x0, x1, x5 => if x5 < (x0.length : Int) then (if 0 ≤ x5 then (if x5 < (x1.length : Int) then ((laws_eqCubeS.f k (rd_L4 x0 x5) (rd_L4 x1 x5)).bind fun t328 => (if t328 = true then (laws_eqCubeSS.l0 k x0 x1 (wrap64 (x5 + 1))) else (some false))) else (none)) else (none)) else (some true)
def laws_eqCubeSS.f (k : Nat) (l0 : List (List (S69))) (l1 : List (List (S69))) : Option (Bool) := if (l0.length : Int) = (l1.length : Int) then (laws_eqCubeSS.l0 k l0 l1 0) else (some false)
def laws_eqCubeSS.T6 : Bool × List (List Nat × List Nat) := (true, [([], []), ([], []), ([0, 1], [0, 1]), ([2], [2]), ([], []), ([], []), ([4, 5], [4, 5]), ([6], [6]), ([3, 7], [3, 7]), ([8], [8])])
def laws_eqCubeSS.B6 : List Nat := [0, 0, 3, 7, 0, 0, 48, 112, 255, 511]
theorem laws_eqCubeSS.tab6 : rtab .any (opsOf Try.f16 6) = laws_eqCubeSS.T6 := by kernel_rfl
theorem laws_eqCubeSS.bits6 : waitsOk laws_eqCubeSS.T6.2 laws_eqCubeSS.B6 = true := by kernel_rfl
set_option maxHeartbeats 8000000 in
set_option maxRecDepth 100000 in
theorem laws_eqCubeSS.calls (k : Nat) (A0 : Option Addr) (c0 : Nat) (l0 : List (List (S69))) (A1 : Option Addr) (c1 : Nat) (l1 : List (List (S69))) (r : Bool) (w : World) (hr0 : Kd.C (Kd.slice 69 k69) w A0 l0.length l0) (hc0 : l0.length ≤ c0) (hr1 : Kd.C (Kd.slice 69 k69) w A1 l1.length l1) (hc1 : l1.length ≤ c1) (h : laws_eqCubeSS.f k l0 l1 = some r) :
    Calls Try.prog 16 #[.slice A0 l0.length c0, .slice A1 l1.length c1] w fun e w' => e = .returned (.bool r) ∧ Below w.heap.size w w' := by
 (have HR0 := A0_ hr0); (have HC0 := A0_ hc0); clear hr0 hc0; (have HR1 := A0_ hr1); (have HC1 := A0_ hc1); clear hr1 hc1; (have HB := A0_ (Below.refl w.heap.size w)); (have H : (if (l0.length : Int) = (l1.length : Int) then (laws_eqCubeSS.l0 k l0 l1 0) else (some false)) = some r := h); clear h; (by_cases c3 : (l0.length : Int) = (l1.length : Int))
 ·(rw [if_pos c3] at H); (have c3b0 : ((l0.length : Int) == (l1.length : Int)) = true := beq_iff_eq.mpr c3); (have c3b1 : ((l0.length : Int) != (l1.length : Int)) = false := bne_eq_false_iff_eq.mpr c3); (have c3b2 : (l0.length == l1.length) = true := by first | simpa using c3 | (simp at c3 ⊢; omega)); clear c3; (have H' := A0_ H); clear H; (go_enter Try.func16, Try.ntmps16); go_wp2
  go_loopg [5] k (fun kq v5 w' => ∃ (x5_1 : Int), v5 = .int .i64 x5_1 ∧ Aside0 (laws_eqCubeSS.l0 kq l0 l1 x5_1 = some r) ∧ Aside0 (kq ≤ k) ∧ Aside0 (Below w.heap.size w w'))
  case atStart => exact ⟨(0), (by first | rfl | (simp; done) | (simp [*]; done)), H', ⟨Nat.le_refl _⟩, ⟨by repeat (first | (with_reducible first | exact HB.out | apply ba_ | apply bn_ | apply bd_) | exact HB.out)⟩⟩
  case round =>
   clear H'; (try clear c1); (try clear p2); (try clear c3); (try clear c3b0); (try clear c3b1); (try clear c3b2); (obtain ⟨x5_1, rfl, HA, HK1, HB⟩ := hrel)
   cases gk with
   | zero => exact absurd HA.out (by simp [laws_eqCubeSS.l0])
   | succ k1 =>
    (have H := HA.out); clear HA; (simp only [laws_eqCubeSS.l0] at H); (by_cases c4 : x5_1 < (l0.length : Int))
    ·(rw [if_pos c4] at H); (have c4b0 : decide (x5_1 < (l0.length : Int)) = true := decide_eq_true c4); clear c4; (by_cases c5 : 0 ≤ x5_1)
     ·(rw [if_pos c5] at H); (have c5b0 : decide (0 ≤ x5_1) = true := decide_eq_true c5); clear c5; (by_cases c6 : x5_1 < (l1.length : Int))
      ·(rw [if_pos c6] at H); (have c6b0 : decide (x5_1 < (l1.length : Int)) = true := decide_eq_true c6); clear c6; (replace H := Option.bind_eq_some_iff.mp H); (obtain ⟨t328, A70, H⟩ := H); (try dsimp only at H); (have A7 := A0_ A70); clear A70; (by_cases c8 : t328 = true)
       ·subst c8; (have H1 := H); (rw [if_pos rfl] at H1); clear H; (have H := H1); clear H1; (have H' := A0_ H); clear H; (try go_wp2); (have n0_ := A0_ (below_drew1 HB.out)); clear HB; (have HB := n0_); clear n0_; (have p326 : 0 ≤ (x5_1 : Int) := of_decide_eq_true (by first | (with_reducible assumption) | assumption)); (have q326 : x5_1 < (l0.length : Int) := of_decide_eq_true (by first | (with_reducible assumption) | assumption)); (obtain ⟨ad326, A326_0, c326_0, e326, hx326_0, hl326_0, hi326_0⟩ := at_L4 HR0.out x5_1 p326 q326); (have hw326_0 := hx326_0); (cases e326); (replace hx326_0 := (HB.out.cell (World.block_lt_of_cell? w _ hx326_0)).trans hx326_0); (have HR326_0 := A0_ hi326_0); (have HC326_0 := A0_ hl326_0); clear hi326_0 hl326_0; (replace p326 := eq_true p326); (replace q326 := eq_true q326); (have p327 : 0 ≤ (x5_1 : Int) := of_decide_eq_true (by first | (with_reducible assumption) | assumption)); (have q327 : x5_1 < (l1.length : Int) := of_decide_eq_true (by first | (with_reducible assumption) | assumption)); (obtain ⟨ad327, A327_0, c327_0, e327, hx327_0, hl327_0, hi327_0⟩ := at_L4 HR1.out x5_1 p327 q327); (have hw327_0 := hx327_0); (cases e327); (replace hx327_0 := (HB.out.cell (World.block_lt_of_cell? w _ hx327_0)).trans hx327_0); (have HR327_0 := A0_ hi327_0); (have HC327_0 := A0_ hl327_0); clear hi327_0 hl327_0; (replace p327 := eq_true p327); (replace q327 := eq_true q327)
        refine start_ (n := 10) (S := fun w' => w'.cell? (ad326.add (x5_1).toNat) = some (.slice A326_0 (rd_L4 l0 x5_1).length c326_0) ∧ w'.cell? (ad327.add (x5_1).toNat) = some (.slice A327_0 (rd_L4 l1 x5_1).length c327_0)) (ds := []) #[ff,ff,ff,ff,ff,ff,ff,ff,ff,ff] (by kernel_rfl) rfl rfl ⟨((HB.out.cell (World.block_lt_of_cell? w _ hw326_0)).trans hw326_0), ((HB.out.cell (World.block_lt_of_cell? w _ hw327_0)).trans hw327_0)⟩ (fun hHeld => ?_); refine with_tabW laws_eqCubeSS.tab6 laws_eqCubeSS.bits6 (fun HT_ HW_ => ?_)
        (generalize wr.drew = w9 at HB HR326_0 HR327_0 hx326_0 hx327_0 hHeld ⊢)
        refine pure_ (i := 0) (N := some 17) (v := ?_) (a' := ?_) #[tt,ff,ff,ff,ff,ff,ff,ff,ff,ff] rfl rfl (any_of HT_.out (by kernel_rfl)) (fun _ _ _ h => h) (Or.inl ⟨by rfl, ?_⟩) ?_ ?_
        rotate_left
        ·intro w'; go_simp; with_reducible rfl
        rotate_left
        ·(simp only [Act.put, sia_, sz_, ss_, i64_w, i32_w]); rfl
        refine pure_ (i := 1) (N := some 18) (v := ?_) (a' := ?_) #[tt,tt,ff,ff,ff,ff,ff,ff,ff,ff] rfl rfl (any_of HT_.out (by kernel_rfl)) (fun _ _ _ h => h) (Or.inl ⟨by rfl, ?_⟩) ?_ ?_
        rotate_left
        ·intro w'; go_simp; with_reducible rfl
        rotate_left
        ·(simp only [Act.put, sia_, sz_, ss_, i64_w, i32_w]); rfl
        refine pure_ (i := 2) (N := some 19) (v := ?_) (a' := ?_) #[tt,tt,tt,ff,ff,ff,ff,ff,ff,ff] rfl rfl (any_of HT_.out (by kernel_rfl)) (fun _ _ _ h => h) (Or.inl ⟨by rfl, ?_⟩) ?_ ?_
        rotate_left
        ·intro w'; go_simp; with_reducible rfl
        rotate_left
        ·(simp only [Act.put, sia_, sz_, ss_, i64_w, i32_w]); rfl
        refine pure_ (i := 4) (N := some 21) (v := ?_) (a' := ?_) #[tt,tt,tt,ff,tt,ff,ff,ff,ff,ff] rfl rfl (any_of HT_.out (by kernel_rfl)) (fun _ _ _ h => h) (Or.inl ⟨by rfl, ?_⟩) ?_ ?_
        rotate_left
        ·intro w'; go_simp; with_reducible rfl
        rotate_left
        ·(simp only [Act.put, sia_, sz_, ss_, i64_w, i32_w]); rfl
        refine pure_ (i := 5) (N := some 22) (v := ?_) (a' := ?_) #[tt,tt,tt,ff,tt,tt,ff,ff,ff,ff] rfl rfl (any_of HT_.out (by kernel_rfl)) (fun _ _ _ h => h) (Or.inl ⟨by rfl, ?_⟩) ?_ ?_
        rotate_left
        ·intro w'; go_simp; with_reducible rfl
        rotate_left
        ·(simp only [Act.put, sia_, sz_, ss_, i64_w, i32_w]); rfl
        refine pure_ (i := 6) (N := some 23) (v := ?_) (a' := ?_) #[tt,tt,tt,ff,tt,tt,tt,ff,ff,ff] rfl rfl (any_of HT_.out (by kernel_rfl)) (fun _ _ _ h => h) (Or.inl ⟨by rfl, ?_⟩) ?_ ?_
        rotate_left
        ·intro w'; go_simp; with_reducible rfl
        rotate_left
        ·(simp only [Act.put, sia_, sz_, ss_, i64_w, i32_w]); rfl
        refine take_ (i := 3) (N := some 20) (v := ?_) (a' := ?_) #[tt,tt,tt,tt,tt,tt,tt,ff,ff,ff] rfl rfl (take_ofW HT_.out HW_.out (by kernel_rfl)) (fun _ _ _ h => h) (Or.inl ⟨by rfl, ?_⟩) hHeld ?_ ?_
        rotate_left
        ·(rintro w' ⟨s0, s1⟩); go_simp; with_reducible rfl
        rotate_left
        ·(simp only [Act.put, sia_, sz_, ss_, i64_w, i32_w]); rfl
        refine take_ (i := 7) (N := some 24) (v := ?_) (a' := ?_) #[tt,tt,tt,tt,tt,tt,tt,tt,ff,ff] rfl rfl (take_ofW HT_.out HW_.out (by kernel_rfl)) (fun _ _ _ h => h) (Or.inl ⟨by rfl, ?_⟩) hHeld ?_ ?_
        rotate_left
        ·(rintro w' ⟨s0, s1⟩); go_simp; with_reducible rfl
        rotate_left
        ·(simp only [Act.put, sia_, sz_, ss_, i64_w, i32_w]); rfl
        refine one_ (i := 8) (N := some 25) #[tt,tt,tt,tt,tt,tt,tt,tt,tt,ff] rfl rfl (one_of HT_.out (by kernel_rfl)) (by decide) (fun K hK => ?_)
        (refine goes_ Try.func18 (by kernel_rfl) rfl #[.slice A326_0 (rd_L4 l0 x5_1).length c326_0, .slice A327_0 (rd_L4 l1 x5_1).length c327_0] (by rfl) rfl rfl (by (try simp only [List.map_toArray, List.map_cons, List.map_nil]); first | done | rfl | (simp only [List.length_drop, List.length_take]; rfl)) ?_); (with_reducible refine (laws_eqCubeS.calls k1 _ _ (rd_L4 l0 x5_1) _ _ (rd_L4 l1 x5_1) true _ ?side1 ?side2 ?side3 ?side4 A7.out).mono ?_); ((case side1 => repeat (first | exact (Kd.C_below HR326_0.out HB.out) | (with_reducible refine Kd.C_alloc ?_ _) | (with_reducible refine Kd.C_drewN ?_ _) | (with_reducible refine Kd.C_drew ?_)))); ((case side2 => exact HC326_0.out)); ((case side3 => repeat (first | exact (Kd.C_below HR327_0.out HB.out) | (with_reducible refine Kd.C_alloc ?_ _) | (with_reducible refine Kd.C_drewN ?_ _) | (with_reducible refine Kd.C_drew ?_)))); ((case side4 => exact HC327_0.out)); (rintro e w10 ⟨rfl, hb⟩); (refine ⟨_, rfl, ?_⟩); (have n0_ := A0_ (below_step (by repeat (first | (with_reducible first | exact HB.out | apply ba_ | apply bn_ | apply bd_) | exact HB.out)) hb)); clear HB; (have HB := n0_); clear n0_; ((try clear hb)); ((try clear hb2)); ((try clear hk)); ((try clear hi))
        refine hK.out _ _ ⟨((HB.out.cell (World.block_lt_of_cell? w _ hw326_0)).trans hw326_0), ((HB.out.cell (World.block_lt_of_cell? w _ hw327_0)).trans hw327_0)⟩ (fun hHeld => ?_)
        clear hK K; (refine norm_ (a' := ?_) ?_ ?_); rotate_left
        ·(show Act.put _ (some 25) _ = _); (simp only [Act.put, sia_, sz_, ss_, i64_w, i32_w]); rfl
        refine pure_ (i := 9) (N := some 26) (v := ?_) (a' := ?_) #[tt,tt,tt,tt,tt,tt,tt,tt,tt,tt] rfl rfl (any_of HT_.out (by kernel_rfl)) (fun _ _ _ h => h) (Or.inl ⟨by rfl, ?_⟩) ?_ ?_
        rotate_left
        ·intro w'; go_simp; with_reducible rfl
        rotate_left
        ·(simp only [Act.put, sia_, sz_, ss_, i64_w, i32_w]); rfl
        (refine done_ (done_of HT_.out (by kernel_rfl)) ?_); (try go_wp2); (go_roundg k1)
        case measure => have := HK1.out; omega
        case rel => exact ⟨(wrap64 (x5_1 + 1)), (by first | rfl | (simp; done) | (simp [*]; done)), H', ⟨by have := HK1.out; omega⟩, ⟨by repeat (first | (with_reducible first | exact HB.out | apply ba_ | apply bn_ | apply bd_) | exact HB.out)⟩⟩
       ·(replace c8 := Bool.eq_false_iff.mpr c8); subst c8; (have H1 : (some false) = some r := by rw [if_neg (show ¬ (false = true) by decide)] at H; exact H); clear H; (have H := H1); clear H1; (obtain rfl := Option.some.inj H); (try go_wp2); (have n0_ := A0_ (below_drew1 HB.out)); clear HB; (have HB := n0_); clear n0_; (have p326 : 0 ≤ (x5_1 : Int) := of_decide_eq_true (by first | (with_reducible assumption) | assumption)); (have q326 : x5_1 < (l0.length : Int) := of_decide_eq_true (by first | (with_reducible assumption) | assumption)); (obtain ⟨ad326, A326_0, c326_0, e326, hx326_0, hl326_0, hi326_0⟩ := at_L4 HR0.out x5_1 p326 q326); (have hw326_0 := hx326_0); (cases e326); (replace hx326_0 := (HB.out.cell (World.block_lt_of_cell? w _ hx326_0)).trans hx326_0); (have HR326_0 := A0_ hi326_0); (have HC326_0 := A0_ hl326_0); clear hi326_0 hl326_0; (replace p326 := eq_true p326); (replace q326 := eq_true q326); (have p327 : 0 ≤ (x5_1 : Int) := of_decide_eq_true (by first | (with_reducible assumption) | assumption)); (have q327 : x5_1 < (l1.length : Int) := of_decide_eq_true (by first | (with_reducible assumption) | assumption)); (obtain ⟨ad327, A327_0, c327_0, e327, hx327_0, hl327_0, hi327_0⟩ := at_L4 HR1.out x5_1 p327 q327); (have hw327_0 := hx327_0); (cases e327); (replace hx327_0 := (HB.out.cell (World.block_lt_of_cell? w _ hx327_0)).trans hx327_0); (have HR327_0 := A0_ hi327_0); (have HC327_0 := A0_ hl327_0); clear hi327_0 hl327_0; (replace p327 := eq_true p327); (replace q327 := eq_true q327)
        refine start_ (n := 10) (S := fun w' => w'.cell? (ad326.add (x5_1).toNat) = some (.slice A326_0 (rd_L4 l0 x5_1).length c326_0) ∧ w'.cell? (ad327.add (x5_1).toNat) = some (.slice A327_0 (rd_L4 l1 x5_1).length c327_0)) (ds := []) #[ff,ff,ff,ff,ff,ff,ff,ff,ff,ff] (by kernel_rfl) rfl rfl ⟨((HB.out.cell (World.block_lt_of_cell? w _ hw326_0)).trans hw326_0), ((HB.out.cell (World.block_lt_of_cell? w _ hw327_0)).trans hw327_0)⟩ (fun hHeld => ?_); refine with_tabW laws_eqCubeSS.tab6 laws_eqCubeSS.bits6 (fun HT_ HW_ => ?_)
        (generalize wr.drew = w11 at HB HR326_0 HR327_0 hx326_0 hx327_0 hHeld ⊢)
        refine pure_ (i := 0) (N := some 17) (v := ?_) (a' := ?_) #[tt,ff,ff,ff,ff,ff,ff,ff,ff,ff] rfl rfl (any_of HT_.out (by kernel_rfl)) (fun _ _ _ h => h) (Or.inl ⟨by rfl, ?_⟩) ?_ ?_
        rotate_left
        ·intro w'; go_simp; with_reducible rfl
        rotate_left
        ·(simp only [Act.put, sia_, sz_, ss_, i64_w, i32_w]); rfl
        refine pure_ (i := 1) (N := some 18) (v := ?_) (a' := ?_) #[tt,tt,ff,ff,ff,ff,ff,ff,ff,ff] rfl rfl (any_of HT_.out (by kernel_rfl)) (fun _ _ _ h => h) (Or.inl ⟨by rfl, ?_⟩) ?_ ?_
        rotate_left
        ·intro w'; go_simp; with_reducible rfl
        rotate_left
        ·(simp only [Act.put, sia_, sz_, ss_, i64_w, i32_w]); rfl
        refine pure_ (i := 2) (N := some 19) (v := ?_) (a' := ?_) #[tt,tt,tt,ff,ff,ff,ff,ff,ff,ff] rfl rfl (any_of HT_.out (by kernel_rfl)) (fun _ _ _ h => h) (Or.inl ⟨by rfl, ?_⟩) ?_ ?_
        rotate_left
        ·intro w'; go_simp; with_reducible rfl
        rotate_left
        ·(simp only [Act.put, sia_, sz_, ss_, i64_w, i32_w]); rfl
        refine pure_ (i := 4) (N := some 21) (v := ?_) (a' := ?_) #[tt,tt,tt,ff,tt,ff,ff,ff,ff,ff] rfl rfl (any_of HT_.out (by kernel_rfl)) (fun _ _ _ h => h) (Or.inl ⟨by rfl, ?_⟩) ?_ ?_
        rotate_left
        ·intro w'; go_simp; with_reducible rfl
        rotate_left
        ·(simp only [Act.put, sia_, sz_, ss_, i64_w, i32_w]); rfl
        refine pure_ (i := 5) (N := some 22) (v := ?_) (a' := ?_) #[tt,tt,tt,ff,tt,tt,ff,ff,ff,ff] rfl rfl (any_of HT_.out (by kernel_rfl)) (fun _ _ _ h => h) (Or.inl ⟨by rfl, ?_⟩) ?_ ?_
        rotate_left
        ·intro w'; go_simp; with_reducible rfl
        rotate_left
        ·(simp only [Act.put, sia_, sz_, ss_, i64_w, i32_w]); rfl
        refine pure_ (i := 6) (N := some 23) (v := ?_) (a' := ?_) #[tt,tt,tt,ff,tt,tt,tt,ff,ff,ff] rfl rfl (any_of HT_.out (by kernel_rfl)) (fun _ _ _ h => h) (Or.inl ⟨by rfl, ?_⟩) ?_ ?_
        rotate_left
        ·intro w'; go_simp; with_reducible rfl
        rotate_left
        ·(simp only [Act.put, sia_, sz_, ss_, i64_w, i32_w]); rfl
        refine take_ (i := 3) (N := some 20) (v := ?_) (a' := ?_) #[tt,tt,tt,tt,tt,tt,tt,ff,ff,ff] rfl rfl (take_ofW HT_.out HW_.out (by kernel_rfl)) (fun _ _ _ h => h) (Or.inl ⟨by rfl, ?_⟩) hHeld ?_ ?_
        rotate_left
        ·(rintro w' ⟨s0, s1⟩); go_simp; with_reducible rfl
        rotate_left
        ·(simp only [Act.put, sia_, sz_, ss_, i64_w, i32_w]); rfl
        refine take_ (i := 7) (N := some 24) (v := ?_) (a' := ?_) #[tt,tt,tt,tt,tt,tt,tt,tt,ff,ff] rfl rfl (take_ofW HT_.out HW_.out (by kernel_rfl)) (fun _ _ _ h => h) (Or.inl ⟨by rfl, ?_⟩) hHeld ?_ ?_
        rotate_left
        ·(rintro w' ⟨s0, s1⟩); go_simp; with_reducible rfl
        rotate_left
        ·(simp only [Act.put, sia_, sz_, ss_, i64_w, i32_w]); rfl
        refine one_ (i := 8) (N := some 25) #[tt,tt,tt,tt,tt,tt,tt,tt,tt,ff] rfl rfl (one_of HT_.out (by kernel_rfl)) (by decide) (fun K hK => ?_)
        (refine goes_ Try.func18 (by kernel_rfl) rfl #[.slice A326_0 (rd_L4 l0 x5_1).length c326_0, .slice A327_0 (rd_L4 l1 x5_1).length c327_0] (by rfl) rfl rfl (by (try simp only [List.map_toArray, List.map_cons, List.map_nil]); first | done | rfl | (simp only [List.length_drop, List.length_take]; rfl)) ?_); (with_reducible refine (laws_eqCubeS.calls k1 _ _ (rd_L4 l0 x5_1) _ _ (rd_L4 l1 x5_1) false _ ?side1 ?side2 ?side3 ?side4 A7.out).mono ?_); ((case side1 => repeat (first | exact (Kd.C_below HR326_0.out HB.out) | (with_reducible refine Kd.C_alloc ?_ _) | (with_reducible refine Kd.C_drewN ?_ _) | (with_reducible refine Kd.C_drew ?_)))); ((case side2 => exact HC326_0.out)); ((case side3 => repeat (first | exact (Kd.C_below HR327_0.out HB.out) | (with_reducible refine Kd.C_alloc ?_ _) | (with_reducible refine Kd.C_drewN ?_ _) | (with_reducible refine Kd.C_drew ?_)))); ((case side4 => exact HC327_0.out)); (rintro e w12 ⟨rfl, hb⟩); (refine ⟨_, rfl, ?_⟩); (have n0_ := A0_ (below_step (by repeat (first | (with_reducible first | exact HB.out | apply ba_ | apply bn_ | apply bd_) | exact HB.out)) hb)); clear HB; (have HB := n0_); clear n0_; ((try clear hb)); ((try clear hb2)); ((try clear hk)); ((try clear hi))
        refine hK.out _ _ ⟨((HB.out.cell (World.block_lt_of_cell? w _ hw326_0)).trans hw326_0), ((HB.out.cell (World.block_lt_of_cell? w _ hw327_0)).trans hw327_0)⟩ (fun hHeld => ?_)
        clear hK K; (refine norm_ (a' := ?_) ?_ ?_); rotate_left
        ·(show Act.put _ (some 25) _ = _); (simp only [Act.put, sia_, sz_, ss_, i64_w, i32_w]); rfl
        refine pure_ (i := 9) (N := some 26) (v := ?_) (a' := ?_) #[tt,tt,tt,tt,tt,tt,tt,tt,tt,tt] rfl rfl (any_of HT_.out (by kernel_rfl)) (fun _ _ _ h => h) (Or.inl ⟨by rfl, ?_⟩) ?_ ?_
        rotate_left
        ·intro w'; go_simp; with_reducible rfl
        rotate_left
        ·(simp only [Act.put, sia_, sz_, ss_, i64_w, i32_w]); rfl
        (refine done_ (done_of HT_.out (by kernel_rfl)) ?_); (try go_wp2); go_ret; (exact ⟨by first | rfl | (simp [errW_none, errW_some] <;> rfl) | (simp [*, errW_none, errW_some] <;> rfl), by repeat (first | (with_reducible first | exact HB.out | apply ba_ | apply bn_ | apply bd_) | exact HB.out)⟩)
      ·(rw [if_neg c6] at H); (exact absurd H (by simp))
     ·(rw [if_neg c5] at H); (exact absurd H (by simp))
    ·(rw [if_neg c4] at H); (have c4b0 : decide (x5_1 < (l0.length : Int)) = false := decide_eq_false c4); clear c4; (obtain rfl := Option.some.inj H); go_wp2; go_ret; (exact ⟨by first | rfl | (simp [errW_none, errW_some] <;> rfl) | (simp [*, errW_none, errW_some] <;> rfl), by repeat (first | (with_reducible first | exact HB.out | apply ba_ | apply bn_ | apply bd_) | exact HB.out)⟩)
 ·(rw [if_neg c3] at H); (have c3b0 : ((l0.length : Int) == (l1.length : Int)) = false := beq_eq_false_iff_ne.mpr c3); (have c3b1 : ((l0.length : Int) != (l1.length : Int)) = true := bne_iff_ne.mpr c3); (have c3b2 : (l0.length == l1.length) = false := by first | simpa using c3 | (simp at c3 ⊢; omega)); (obtain rfl := Option.some.inj H); (go_enter Try.func16, Try.ntmps16); go_wp2; go_ret; (exact ⟨by first | rfl | (simp [errW_none, errW_some] <;> rfl) | (simp [*, errW_none, errW_some] <;> rfl), by repeat (first | (with_reducible first | exact HB.out | apply ba_ | apply bn_ | apply bd_) | exact HB.out)⟩)
end Go.Proofs.Ytlbckkagjekhnaa.A

namespace Go.Proofs.Ytlbckkagjekhnaa.A
open Go.RowKit Go.Proofs.YtlbckkagjekhnaaW.PrintWords Go.Proofs.YtlbckkagjekhnaaW.PrintLast Go.Proofs.YtlbckkagjekhnaaW.PrintMore
attribute [local go_sem] max2_int min2_int max_two min_two max_three min_three max_four min_four   -- for this text's walks alone
set_option linter.unusedVariables false
set_option linter.unusedSimpArgs false
def laws_eqAssembly.f (k : Nat) (l0_0 : List (List (S69))) (l1_0 : List (List (S69))) : Option (Bool) := (laws_eqCubeSS.f k l0_0 l1_0).bind fun t331 => (if t331 = true then (some true) else (some false))
set_option maxHeartbeats 8000000 in
set_option maxRecDepth 100000 in
theorem laws_eqAssembly.calls (k : Nat) (A0_0 : Option Addr) (c0_0 : Nat) (l0_0 : List (List (S69))) (A1_0 : Option Addr) (c1_0 : Nat) (l1_0 : List (List (S69))) (r : Bool) (w : World) (hr0_0 : Kd.C (Kd.slice 69 k69) w A0_0 l0_0.length l0_0) (hc0_0 : l0_0.length ≤ c0_0) (hr1_0 : Kd.C (Kd.slice 69 k69) w A1_0 l1_0.length l1_0) (hc1_0 : l1_0.length ≤ c1_0) (h : laws_eqAssembly.f k l0_0 l1_0 = some r) :
    Calls Try.prog 17 #[.agg #[.slice A0_0 l0_0.length c0_0], .agg #[.slice A1_0 l1_0.length c1_0]] w fun e w' => e = .returned (.bool r) ∧ Below w.heap.size w w' := by
 (have hu32 := Try.underlying32); (have HR0_0 := A0_ hr0_0); (have HC0_0 := A0_ hc0_0); clear hr0_0 hc0_0; (have HR1_0 := A0_ hr1_0); (have HC1_0 := A0_ hc1_0); clear hr1_0 hc1_0; (have HB := A0_ (Below.refl w.heap.size w))
 have H : ((laws_eqCubeSS.f k l0_0 l1_0).bind fun t331 => (if t331 = true then (some true) else (some false))) = some r := h
 clear h; (replace H := Option.bind_eq_some_iff.mp H); (obtain ⟨t331, A30, H⟩ := H); (try dsimp only at H); (have A3 := A0_ A30); clear A30; (have H0_ := A0_ H); clear H; (go_enter Try.func17, Try.ntmps17); (go_wp2_with (first | ((with_reducible refine gate_dst (N := 2) rfl ?_); refine box_event ?hg (N := 2) ?hd (cs := #[.slice A0_0 l0_0.length c0_0]) (t := 32) ?hr ?_; (case hd => rfl); (case hg => rfl); (case hr => first | (go_simp; done) | (go_simp; rfl)); intro gb329 hg w4 hbox hb; have n0_ := A0_ (below_step (by repeat (first | (with_reducible first | exact HB.out | apply ba_ | apply bn_ | apply bd_) | exact HB.out)) hb); have n1_ := A0_ (hbox); have n2_ := A0_ ((by rw [hg]; exact (below_size (by repeat (first | (with_reducible first | exact HB.out | apply ba_ | apply bn_ | apply bd_) | exact HB.out))) : w.heap.size ≤ gb329)); have n3_ := A0_ ((by rw [hg]; exact (below_size (by repeat (first | (with_reducible first | exact HB.out | apply ba_ | apply bn_ | apply bd_) | exact HB.out))) : w.heap.size ≤ gb329)); clear HB; have HB := n0_; have BK329 := n1_; have GW329 := n2_; have GE329 := n3_; clear n0_ n1_ n2_ n3_; clear hb hbox hg) | ((with_reducible refine gate_dst (N := 3) rfl ?_); refine box_event ?hg (N := 3) ?hd (cs := #[.slice A1_0 l1_0.length c1_0]) (t := 32) ?hr ?_; (case hd => rfl); (case hg => rfl); (case hr => first | (go_simp; done) | (go_simp; rfl)); intro gb330 hg w5 hbox hb; have n0_ := A0_ (blk_below (g := gb329) (o := .cells #[.slice A0_0 l0_0.length c0_0] 32 (0, 0)) (by (with_reducible repeat (first | apply gn_ | apply gd_ | apply ga_)); exact BK329.out) hb); have n1_ := A0_ (below_step (by repeat (first | (with_reducible first | exact HB.out | apply ba_ | apply bn_ | apply bd_ | refine below_set ?_ GE329.out) | exact HB.out)) hb); have n2_ := A0_ (hbox); have n3_ := A0_ ((by rw [hg]; exact (below_size (by repeat (first | (with_reducible first | exact HB.out | apply ba_ | apply bn_ | apply bd_ | refine below_set ?_ GE329.out) | exact HB.out))) : w.heap.size ≤ gb330)); have n4_ := A0_ ((by rw [hg]; exact (below_size (by repeat (first | (with_reducible first | exact HB.out | apply ba_ | apply bn_ | apply bd_ | refine below_set ?_ GE329.out) | exact HB.out))) : w.heap.size ≤ gb330)); have n5_ := A0_ ((by rw [hg]; exact Nat.ne_of_lt (blk_lt (g := gb329) (o := .cells #[.slice A0_0 l0_0.length c0_0] 32 (0, 0)) (by (with_reducible repeat (first | apply gn_ | apply gd_ | apply ga_)); exact BK329.out)) : gb329 ≠ gb330)); have n6_ := A0_ ((by rw [hg]; exact Nat.ne_of_gt (blk_lt (g := gb329) (o := .cells #[.slice A0_0 l0_0.length c0_0] 32 (0, 0)) (by (with_reducible repeat (first | apply gn_ | apply gd_ | apply ga_)); exact BK329.out)) : gb330 ≠ gb329)); clear BK329; clear HB; have BK329 := n0_; have HB := n1_; have BK330 := n2_; have GW330 := n3_; have GE330 := n4_; have NB329_330 := n5_; have NB330_329 := n6_; clear n0_ n1_ n2_ n3_ n4_ n5_ n6_; clear hb hbox hg; have hnb6 := NB329_330.out; have hnc6 := NB330_329.out; have hcz7_0 : w5.cell? ⟨gb329, 0, none⟩ = some (.slice A0_0 l0_0.length c0_0) := (blk_cell BK329.out 0).trans rfl; have hfz7_0 := blk_frozen BK329.out 0; have hcz8_0 : w5.cell? ⟨gb330, 0, none⟩ = some (.slice A1_0 l1_0.length c1_0) := (blk_cell BK330.out 0).trans rfl; have hfz8_0 := blk_frozen BK330.out 0) | ((with_reducible refine gate_callee (f := 16) rfl ?_); refine goesL_ (some 9) rfl rfl Try.func16 (by kernel_rfl) rfl #[.slice A0_0 l0_0.length c0_0, .slice A1_0 l1_0.length c1_0] rfl (by (try simp only [List.map_toArray, List.map_cons, List.map_nil]); first | done | rfl | (simp only [List.length_drop, List.length_take]; rfl)) ?_; (with_reducible refine (laws_eqCubeSS.calls k _ _ l0_0 _ _ l1_0 t331 _ ?side1 ?side2 ?side3 ?side4 A3.out).mono ?_); (case side1 => repeat (first | exact (Kd.C_below HR0_0.out HB.out) | (with_reducible refine Kd.C_alloc ?_ _) | (with_reducible refine Kd.C_drewN ?_ _) | (with_reducible refine Kd.C_drew ?_))); (case side2 => exact HC0_0.out); (case side3 => repeat (first | exact (Kd.C_below HR1_0.out HB.out) | (with_reducible refine Kd.C_alloc ?_ _) | (with_reducible refine Kd.C_drewN ?_ _) | (with_reducible refine Kd.C_drew ?_))); (case side4 => exact HC1_0.out); rintro e w9 ⟨rfl, hb⟩; refine ⟨_, rfl, ?_⟩; have n0_ := A0_ (blk_below (g := gb329) (o := .cells #[.slice A0_0 l0_0.length c0_0] 32 (0, 0)) (by (with_reducible repeat (first | apply gn_ | apply gd_ | apply ga_)); exact BK329.out) hb); have n1_ := A0_ (blk_below (g := gb330) (o := .cells #[.slice A1_0 l1_0.length c1_0] 32 (0, 0)) (by (with_reducible repeat (first | apply gn_ | apply gd_ | apply ga_)); exact BK330.out) hb); have n2_ := A0_ (below_step (by repeat (first | (with_reducible first | exact HB.out | apply ba_ | apply bn_ | apply bd_ | refine below_set ?_ GE329.out | refine below_set ?_ GE330.out) | exact HB.out)) hb); clear BK329; clear BK330; clear HB; have BK329 := n0_; have BK330 := n1_; have HB := n2_; clear n0_ n1_ n2_; (try clear hb); (try clear hb2); (try clear hk); (try clear hi); refine Stop0.out ?_))); (refine Stop0.mk ?_); (have H := H0_.out); clear H0_; (by_cases c10 : t331 = true)
 ·subst c10; (have H1 := H); (rw [if_pos rfl] at H1); clear H; (have H := H1); clear H1; (obtain rfl := Option.some.inj H); go_wp2; go_ret; (exact ⟨by first | rfl | (simp [errW_none, errW_some] <;> rfl) | (simp [*, errW_none, errW_some] <;> rfl), by repeat (first | (with_reducible first | exact HB.out | apply ba_ | apply bn_ | apply bd_ | refine below_set ?_ GE329.out | refine below_set ?_ GE330.out) | exact HB.out)⟩)
 ·(replace c10 := Bool.eq_false_iff.mpr c10); subst c10; (have H1 : (some false) = some r := by rw [if_neg (show ¬ (false = true) by decide)] at H; exact H); clear H; (have H := H1); clear H1; (obtain rfl := Option.some.inj H); go_wp2; go_ret; (exact ⟨by first | rfl | (simp [errW_none, errW_some] <;> rfl) | (simp [*, errW_none, errW_some] <;> rfl), by repeat (first | (with_reducible first | exact HB.out | apply ba_ | apply bn_ | apply bd_ | refine below_set ?_ GE329.out | refine below_set ?_ GE330.out) | exact HB.out)⟩)
end Go.Proofs.Ytlbckkagjekhnaa.A

/- What the burrs' laws do with assemblies: sizes, copies, comparisons. No program in sight. -/
namespace Go.Proofs.Ytlbckkagjekhnaa.A
open Go.RowKit Go.Proofs.YtlbckkagjekhnaaW.PrintWords Go.Proofs.YtlbckkagjekhnaaW.PrintLast Go.Proofs.YtlbckkagjekhnaaW.PrintMore
set_option linter.unusedVariables false
set_option linter.unusedSimpArgs false
abbrev Lb := S71
structure S24 where
  f0 : List (List Lb)
def k24 : Kd S24 := Kd.iso (Kd.slice 25 (Kd.slice 71 k71)) (fun x : S24 => x.f0)
theorem k24_open {w : World} {x : S24} {cs : List Value} (h : k24.K w x cs) : ∃ A0 c0, cs = [.slice A0 x.f0.length c0] ∧ x.f0.length ≤ c0 ∧ (Kd.slice 71 k71).C w A0 x.f0.length x.f0 := by
  obtain ⟨A0, c0, rfl, l0, g0⟩ := h
  exact ⟨A0, c0, rfl, l0, g0⟩
def toC (c : Lb) : Cb := ⟨c.f0, c.f1, c.f2⟩
def toP (l : List (List Lb)) : List (List Cb) := l.map fun p => p.map toC
def szV {α : Type} : List (List α) → Int → Int
  | [], a => a
  | r :: rs, a => if a - (r.length : Int) < 0 then -1 else szV rs (a - (r.length : Int))
def szL {α : Type} (rows : List (List α)) (a : Int) : Int := if a - (rows.length : Int) < 0 then -1 else szV rows (a - (rows.length : Int))
def tot2 {α : Type} (rows : List (List α)) : Int := ((rows.map List.length).sum : Nat)
theorem tot2_cons {α : Type} (r : List α) (rs : List (List α)) : tot2 (r :: rs) = (r.length : Int) + tot2 rs := by unfold tot2; simp
theorem szV_eq {α : Type} : ∀ (rows : List (List α)) (a : Int), ¬ szV rows a < 0 → szV rows a = a - tot2 rows ∧ ∀ r ∈ rows, (r.length : Int) ≤ a
  | [], a, h => ⟨by simp [szV, tot2], fun r hr => by simp at hr⟩
  | x :: rs, a, h => by
    unfold szV at h ⊢
    rw [tot2_cons]
    by_cases c : a - (x.length : Int) < 0
    · rw [if_pos c] at h; omega
    · rw [if_neg c] at h ⊢
      obtain ⟨h1, h2⟩ := szV_eq rs _ h
      refine ⟨by omega, fun r hr => ?_⟩
      rcases List.mem_cons.1 hr with rfl | hr
      · omega
      · have := h2 r hr; omega
/-- The sizes of an input that the law looks at. -/
structure SzOk {α : Type} (rows : List (List α)) : Prop where
  len : rows.length ≤ 1048576
  each : ∀ r ∈ rows, r.length ≤ 1048576
  tot : tot2 rows ≤ 1048576
theorem szL_eq {α : Type} (rows : List (List α)) (a : Int) (ha : a ≤ 1048576) (h : ¬ szL rows a < 0) : szL rows a = a - (rows.length : Int) - tot2 rows ∧ SzOk rows := by
  unfold szL at h ⊢
  by_cases c : a - (rows.length : Int) < 0
  · rw [if_pos c] at h; omega
  · rw [if_neg c] at h ⊢
    obtain ⟨h1, h2⟩ := szV_eq rows _ h
    refine ⟨h1, ⟨by omega, fun r hr => by have := h2 r hr; omega, ?_⟩⟩
    omega
theorem szCubeSS_ev (rows : List (List Lb)) (a : Int) (ha : 0 ≤ a ∧ a ≤ 1048576) (h1 : rows.length ≤ maxLen) (h2 : ∀ r ∈ rows, r.length ≤ maxLen) : Ev (fun k => laws_szCubeSS.f k rows a) (szL rows a) := by
  unfold maxLen at h1 h2
  unfold laws_szCubeSS.f szL
  have e : wrap64 (a - (rows.length : Int)) = a - (rows.length : Int) := by unfold wrap64; omega
  rw [e]
  by_cases c : a - (rows.length : Int) < 0
  · simp only [c, if_true]
    exact Ev.now _
  · simp only [c, if_false]
    have := ev_listI rows (fun (s : Int) (_ : Nat) => 0 ≤ s ∧ s ≤ 1048576) (fun s i k => laws_szCubeSS.l0 k rows s i) (fun s l => szV l s) (fun s hi => ?_) (fun s j hj hi ih => ?_) rows.length 0 (a - (rows.length : Int)) (by omega) ⟨by omega, by omega⟩
    · simpa using this
    · exact Ev.step (f := fun _ => some s) (fun k => by simp only [laws_szCubeSS.l0]; rw [if_neg (by omega)]) (Ev.now _)
    · have hg : rd_L2 rows (j : Int) = rows[j] := by unfold rd_L2; exact getD_nat rows _ j hj
      have hr := h2 rows[j] (List.getElem_mem hj)
      have ew : wrap64 (s - (rows[j].length : Int)) = s - (rows[j].length : Int) := by unfold wrap64; omega
      refine Ev.succ ?_
      simp only [laws_szCubeSS.l0, show (j : Int) < (rows.length : Int) from by omega, show (0 : Int) ≤ (j : Int) from by omega, if_true, hg, laws_szCubeS.f, ew, wrap_succ j (by omega)]
      rw [show szV (rows[j] :: rows.drop (j + 1)) s = if s - (rows[j].length : Int) < 0 then -1 else szV (rows.drop (j + 1)) (s - (rows[j].length : Int)) from rfl]
      by_cases c2 : s - (rows[j].length : Int) < 0
      · simp only [c2, if_true, Option.bind_some, show ((-1 : Int) < 0) from by decide]
        exact Ev.now _
      · simp only [c2, if_false, Option.bind_some]
        exact ih _ ⟨by omega, by omega⟩
theorem szAssembly_ev (rows : List (List Lb)) (a : Int) (ha : 0 ≤ a ∧ a ≤ 1048576) (h1 : rows.length ≤ maxLen) (h2 : ∀ r ∈ rows, r.length ≤ maxLen) : Ev (fun k => laws_szAssembly.f k rows a) (if szL rows a < 0 then -1 else szL rows a) := by
  unfold laws_szAssembly.f
  refine Ev.bind (szCubeSS_ev rows a ha h1 h2) ?_
  by_cases c : szL rows a < 0
  · simp only [c, if_true]; exact Ev.now _
  · simp only [c, if_false]; exact Ev.now _
theorem toCubeS_ev (l : List Lb) (h : l.length ≤ 1048576) : Ev (fun k => laws_toCubeS.f k l) (l.map toC) := by
  unfold laws_toCubeS.f
  simp only [Int.toNat_natCast, show (0 : Int) ≤ l.length from by omega, show l.length ≤ 11728124029610 from by omega, if_true]
  refine ev_at l.length (fun s j => s = (l.take j).map toC ++ List.replicate (l.length - j) z69) (l.map toC) (fun s i k => laws_toCubeS.l0 k l s i) (fun s hi => ?_) (fun s j hj hi => ?_) _ (by simp)
  · refine Ev.step (f := fun _ => some s) (fun k => by simp only [laws_toCubeS.l0]; rw [if_neg (by omega)]) ?_
    rw [hi]
    simpa using Ev.now _
  · have hl : s.length = l.length := by rw [hi]; simp; omega
    have hg : rd_T71 l (j : Int) = l[j] := by unfold rd_T71; exact getD_nat l _ j hj
    refine ⟨s.set j (toC l[j]), by rw [hi]; exact set_fill toC _ l j hj, fun h2 => Ev.step (fun k => ?_) h2⟩
    simp only [laws_toCubeS.l0, laws_toCube.f, Option.bind_some, hg]
    rw [if_pos (by omega), if_pos (by omega), if_pos (by omega), wrap_succ j (by omega), Int.toNat_natCast]
    rfl
theorem toCubeSS_ev (l : List (List Lb)) (h : SzOk l) : Ev (fun k => laws_toCubeSS.f k l) (toP l) := by
  have h1 := h.len
  unfold laws_toCubeSS.f toP
  simp only [Int.toNat_natCast, show (0 : Int) ≤ l.length from by omega, show l.length ≤ 11728124029610 from by omega, if_true]
  refine ev_at l.length (fun s j => s = (l.take j).map (fun p => p.map toC) ++ List.replicate (l.length - j) []) (l.map fun p => p.map toC) (fun s i k => laws_toCubeSS.l0 k l s i) (fun s hi => ?_) (fun s j hj hi => ?_) (List.replicate l.length []) (by simp)
  · refine Ev.step (f := fun _ => some s) (fun k => by simp only [laws_toCubeSS.l0]; rw [if_neg (by omega)]) ?_
    rw [hi]
    simpa using Ev.now _
  · have hl : s.length = l.length := by rw [hi]; simp; omega
    have hg : rd_L2 l (j : Int) = l[j] := by unfold rd_L2; exact getD_nat l _ j hj
    refine ⟨s.set j (l[j].map toC), by rw [hi]; exact set_fill (fun p => p.map toC) _ l j hj, fun h2 => Ev.succ ?_⟩
    simp only [laws_toCubeSS.l0, show (j : Int) < (l.length : Int) from by omega, show (0 : Int) ≤ (j : Int) from by omega, show (j : Int) < (s.length : Int) from by omega, if_true, hg, wrap_succ j (by omega), Int.toNat_natCast]
    exact Ev.bind (toCubeS_ev l[j] (h.each _ (List.getElem_mem hj))) h2
theorem toAssembly_ev (l : List (List Lb)) (h : SzOk l) : Ev (fun k => laws_toAssembly.f k l) (toP l) := by
  unfold laws_toAssembly.f
  exact Ev.bind (toCubeSS_ev l h) (Ev.now _)
theorem eqCubeS_ev (l : List Cb) (h : l.length ≤ 1048576) : Ev (fun k => laws_eqCubeS.f k l l) true := by
  unfold laws_eqCubeS.f
  simp only [if_true]
  refine ev_at l.length (fun (_ : Unit) _ => True) true (fun _ i k => laws_eqCubeS.l0 k l l i) (fun s hi => ?_) (fun s j hj hi => ?_) () trivial
  · exact Ev.step (f := fun _ => some true) (fun k => by simp only [laws_eqCubeS.l0]; rw [if_neg (by omega)]) (Ev.now _)
  · refine ⟨(), trivial, fun h2 => Ev.step (fun k => ?_) h2⟩
    simp only [laws_eqCubeS.l0, laws_eqCube.f, if_true, Option.bind_some]
    rw [if_pos (by omega), if_pos (by omega), if_pos (by omega), wrap_succ j (by omega)]
theorem eqCubeSS_ev (l : List (List Cb)) (h : SzOk l) : Ev (fun k => laws_eqCubeSS.f k l l) true := by
  have h1 := h.len
  unfold laws_eqCubeSS.f
  simp only [if_true]
  refine ev_at l.length (fun (_ : Unit) _ => True) true (fun _ i k => laws_eqCubeSS.l0 k l l i) (fun s hi => ?_) (fun s j hj hi => ?_) () trivial
  · exact Ev.step (f := fun _ => some true) (fun k => by simp only [laws_eqCubeSS.l0]; rw [if_neg (by omega)]) (Ev.now _)
  · have hg : rd_L4 l (j : Int) = l[j] := by unfold rd_L4; exact getD_nat l _ j hj
    refine ⟨(), trivial, fun h2 => Ev.succ ?_⟩
    simp only [laws_eqCubeSS.l0, show (j : Int) < (l.length : Int) from by omega, show (0 : Int) ≤ (j : Int) from by omega, if_true, hg, wrap_succ j (by omega)]
    refine Ev.bind (eqCubeS_ev l[j] (h.each _ (List.getElem_mem hj))) ?_
    simpa using h2
theorem eqAssembly_ev (l : List (List Cb)) (h : SzOk l) : Ev (fun k => laws_eqAssembly.f k l l) true := by
  unfold laws_eqAssembly.f
  exact Ev.bind (eqCubeSS_ev l h) (by simpa using Ev.now true)
theorem toP_ok {l : List (List Lb)} (h : SzOk l) : SzOk (toP l) := by
  refine ⟨by unfold toP; rw [List.length_map]; exact h.len, fun r hr => ?_, ?_⟩
  · unfold toP at hr
    obtain ⟨p, hp, rfl⟩ := List.mem_map.1 hr
    rw [List.length_map]
    exact h.each p hp
  · have : tot2 (toP l) = tot2 l := by
      unfold tot2 toP
      rw [List.map_map]
      have : (List.length ∘ fun p : List Lb => List.map toC p) = (List.length : List Lb → Nat) := by funext p; simp
      rw [this]
    rw [this]
    exact h.tot
end Go.Proofs.Ytlbckkagjekhnaa.A

/- Both StatesOf: what they answer on any assembly (contracts without premises on small functions). -/
namespace Go.Proofs.Ytlbckkagjekhnaa.A
open Go.RowKit Go.Proofs.YtlbckkagjekhnaaW.PrintWords Go.Proofs.YtlbckkagjekhnaaW.PrintLast Go.Proofs.YtlbckkagjekhnaaW.PrintMore
set_option linter.unusedVariables false
set_option linter.unusedSimpArgs false
abbrev asmP (parts : List (List Cb)) : Bool := isAsmP solP conP parts
theorem sol_at {parts : List (List Cb)} (hz : SzOk parts) : ∀ p ∈ parts, ∃ K, impl_isSolid.f K p = some (solP p) := fun p hp => (isolid_ev p (hz.each p hp)).rounds
theorem con_at {parts : List (List Cb)} (hz : SzOk parts) : ∀ p ∈ parts, solP p = true → ∃ K, impl_connectedCubes.f K p = some (conP p) := fun p hp hs => (icon_ev p (sol_in p hs).1 (hz.each p hp) (sol_in p hs).2.2).rounds
/-- What an assembly is. -/
theorem asm_of {parts : List (List Cb)} (h : asmP parts = true) : (2 ≤ parts.length ∧ parts.length ≤ 4) ∧ ∀ p ∈ parts, (1 ≤ p.length ∧ p.length ≤ 24) ∧ ∀ c ∈ p, inCb c 0 7 = true := by
  unfold asmP isAsmP at h
  rw [Bool.and_eq_true, Bool.and_eq_true, Bool.and_eq_true, decide_eq_true_eq, decide_eq_true_eq, List.all_eq_true] at h
  refine ⟨h.1, fun p hp => ?_⟩
  obtain ⟨h1, _, h3⟩ := part_ok _ _ p (h.2.1 p hp)
  exact ⟨⟨(sol_in p h1).1, (sol_in p h1).2.1⟩, h3⟩
theorem fr_at {w : World} {Ap : Option Addr} {parts : List (List Cb)} (hC : kP.C w Ap parts.length parts) (hz : SzOk parts) (h : asmP parts = true) : FrOk w Ap parts := ⟨hC, by have := (asm_of h).1; omega, hz.each⟩
theorem smoves_at {parts : List (List Cb)} (hz : SzOk parts) (h : asmP parts = true) : ∀ o : List Cb, o.length = parts.length → ∃ K, spec_l27Moves.f K parts o = some (movesP parts o) := fun o ho =>
  (smoves_ev parts o ho (by have := (asm_of h).1; omega) (by have := (asm_of h).1; omega) hz.each (fun p hp => ((asm_of h).2 p hp).2)).rounds
theorem sIsAsm_calls (Ap : Option Addr) (cp : Nat) (parts : List (List Cb)) (w : World) (hC : kP.C w Ap parts.length parts) (hcp : parts.length ≤ cp) (hz : SzOk parts) :
    Calls Try.prog 54 #[.agg #[.slice Ap parts.length cp]] w fun e w' => e = .returned (.bool (asmP parts)) ∧ Below w.heap.size w w' :=
  spec_IsAssembly.calls 0 Ap cp parts (asmP parts) w hC hcp (by unfold spec_IsAssembly.f; rw [if_pos ⟨hz.len, hz.each⟩, asm_same])
theorem iIsAsm_calls (w0 : World) (Ap : Option Addr) (cp : Nat) (parts : List (List Cb)) (hC : kP.C w0 Ap parts.length parts) (hz : SzOk parts) (rest : List Res) (w : World) (hs : Sp w0 rest w) :
    Calls Try.prog 56 #[.agg #[.slice Ap parts.length cp]] w fun e w' => e = .returned (.bool (asmP parts)) ∧ Sp w0 rest w' := isAssembly_calls w0 Ap cp parts hC hz.each solP conP (sol_at hz) (con_at hz) rest w hs
end Go.Proofs.Ytlbckkagjekhnaa.A

/- impl.FindExit, impl.LevelOf, walked. -/
namespace Go.Proofs.Ytlbckkagjekhnaa.A
open Go.RowKit Go.Proofs.YtlbckkagjekhnaaW.PrintWords Go.Proofs.YtlbckkagjekhnaaW.PrintLast Go.Proofs.YtlbckkagjekhnaaW.PrintMore
set_option linter.unusedVariables false
set_option linter.unusedSimpArgs false
def exitX (parts : List (List Cb)) : Option (List Nd × Int) := searchX parts (exB parts true) 1201 [(zerosC parts.length, -1, 0)] 0
/-- The way to an exit, the part and direction that are free there, and the code. -/
def exitR (parts : List (List Cb)) : List Int × Int × Int :=
  if asmP parts = true then (match exitX parts with
    | none => ([], 0, 3)
    | some (S, i) => if i < 0 then ([], 0, 4) else (wayN S i.toNat, (freeP parts (ndAt S i.toNat).1).getD 0 0, 0)) else ([], 0, 1)
theorem visit_wf {o : List Cb} {k : Nat} {S S' : List Nd} {m : Int} (h : visitP o k S m = some S') (hw : WfN S) (hk : k < S.length) : WfN S' := by
  unfold visitP at h
  split at h
  · injection h with h; subst h; exact hw
  · split at h
    · injection h with h; subst h; exact hw
    · split at h
      · cases h
      · injection h with h
        subst h
        intro j hj
        rw [List.length_append, List.length_singleton] at hj
        by_cases c : j < S.length
        · rw [ndAt_app c]; exact hw j c
        · have : j = S.length := by omega
          subst this
          rw [ndAt_new]
          show (k : Int) < _
          omega
theorem spread_wf {o : List Cb} {k : Nat} : ∀ (ms : List Int) {S S' : List Nd}, ms.foldlM (visitP o k) S = some S' → WfN S → k < S.length → WfN S'
  | [], S, S', h, hw, hk => by
    have : S = S' := Option.some.inj h
    subst this
    exact hw
  | m :: ms, S, S', h, hw, hk => by
    rw [List.foldlM_cons] at h
    obtain ⟨T, h1, h2⟩ := Option.bind_eq_some_iff.1 h
    exact spread_wf ms h2 (visit_wf h1 hw hk) (Nat.lt_of_lt_of_le hk (visit_le h1))
theorem Sp.intCell0 {w0 w : World} {rs : List Res} {i e base n c : Nat} {ad : Addr} {xs : List Int} (h : Sp w0 rs w) (hi : rs[i]? = some (Res.row kI e base (.slice (some ad) n c) xs)) (hn : 0 < n) : w.cell? ad = some (.int .i64 (xs.getD 0 0)) := by
  have := Sp.intCell h hi 0 hn
  rw [Addr.add_zero'] at this
  exact this
def fexF.T7 : Bool × List (List Nat × List Nat) := (true, [([], []), ([0], [0]), ([1], [1]), ([2], [2]), ([], []), ([4], [4]), ([5], [5]), ([6], [6]), ([], []), ([7, 8], [7, 8]), ([9], [9]), ([10], [10]), ([3, 11], [3, 11]), ([12, 12, 0, 1, 2, 3, 4, 5, 6, 7, 8, 9, 10, 11, 12], [12])])
def fexF.B7 : List Nat := [0, 1, 3, 7, 0, 16, 48, 112, 0, 496, 1008, 2032, 4095, 8191]
theorem fexF.tab7 : rtab .any (opsOf Try.f33 7) = fexF.T7 := by kernel_rfl
theorem fexF.bits7 : waitsOk fexF.T7.2 fexF.B7 = true := by kernel_rfl
def fexF.T9 : Bool × List (List Nat × List Nat) := (true, [([], []), ([], []), ([0, 1], [0, 1]), ([], []), ([3], [3]), ([4], [4]), ([2, 2, 0, 1, 2], [2]), ([5, 6, 0, 1, 2, 3, 4, 5, 6], [5]), ([7, 0, 1, 2, 3, 4, 5, 6, 7], [])])
def fexF.B9 : List Nat := [0, 0, 3, 0, 8, 24, 7, 127, 255]
theorem fexF.tab9 : rtab .any (opsOf Try.f33 9) = fexF.T9 := by kernel_rfl
theorem fexF.bits9 : waitsOk fexF.T9.2 fexF.B9 = true := by kernel_rfl
set_option maxHeartbeats 8000000 in
set_option maxRecDepth 100000 in
theorem findExit_calls (Ap : Option Addr) (cp : Nat) (parts : List (List Cb)) (w : World) (hC : kP.C w Ap parts.length parts) (hz : SzOk parts) :
    Calls Try.prog 33 #[.agg #[.slice Ap parts.length cp]] w fun e w' => ∃ v_ : Value, e = .returned (.tuple #[v_, .int .i64 (exitR parts).2.1, .int .i64 (exitR parts).2.2]) ∧ kI.R 2 w' w.heap.size (fun _ => True) v_ (exitR parts).1 ∧ Below w.heap.size w w' := by
  have hu32 := Try.underlying32
  have hu104 := Try.underlying104
  have HS := A0_ (Sp.start w)
  have hia := fun rs w2 (hs : Sp w rs w2) => iIsAsm_calls w Ap cp parts hC hz rs w2 hs
  cases has : asmP parts with
  | false =>
    rw [has] at hia
    have HIA := A0_ hia
    have HST := A0_ (show exitR parts = ([], 0, 1) by unfold exitR; rw [has, if_neg (by simp)])
    clear has hia hC hz
    rw [HST.out]
    go_enter Try.func33, Try.ntmps33
    go_wp2_with (first
      | ((with_reducible refine gate_dst (N := 1) rfl ?_); go_loud (refine box_event ?hg (N := 1) ?hd (cs := #[.slice Ap parts.length cp]) (t := 32) ?hr ?_; (case hd => rfl); (case hg => rfl); (case hr => first | (go_simp; done) | (go_simp; rfl)); intro ga hgb_ wb_ hcb_ hbb_; have HS_ := A0_ (Sp.boxed HS.out hgb_ hcb_ hbb_); clear HS; have HS := HS_; clear HS_; clear hgb_ hcb_ hbb_; have ha0 := (blk_cell (Sp.blk HS.out (i := 0) rfl).1 0).trans rfl))
      | (go_at_call 56; refine (HIA.out _ _ HS.out).mono ?_; rintro e wi_ ⟨rfl, hs_⟩; have HS_ := A0_ (hs_); clear HS; have HS := HS_; clear HS_; clear hs_ ha0))
    go_ret3
    exact ⟨_, rfl, Kd.R_nil kI 2 _ _ _, HS.out.below⟩
  | true =>
    rw [has] at hia
    have HIA := A0_ hia
    have hlen := (asm_of has).1
    have HL := A0_ (show 1 ≤ parts.length ∧ parts.length ≤ 4 by omega)
    have HF := A0_ (show FrOk w Ap parts from fr_at hC hz has)
    have HST := A0_ (show exitR parts = (match exitX parts with
      | none => ([], 0, 3)
      | some (S, i) => if i < 0 then ([], 0, 4) else (wayN S i.toNat, (freeP parts (ndAt S i.toNat).1).getD 0 0, 0)) by unfold exitR; rw [has, if_pos rfl])
    clear has hia hC hz hlen
    obtain ⟨RV, hRV⟩ : ∃ RV, RV = exitR parts := ⟨_, rfl⟩
    have HRV := A0_ (hRV.trans HST.out)
    rw [← hRV]
    clear hRV HST
    have HSR := A0_ (show exitX parts = searchX parts (exB parts true) 1201 [(zerosC parts.length, -1, 0)] 0 from rfl)
    obtain ⟨R, hR⟩ : ∃ R, R = exitX parts := ⟨_, rfl⟩
    rw [← hR] at HSR HRV
    clear hR
    go_enter Try.func33, Try.ntmps33
    go_wp2_with (first
      | ((with_reducible refine gate_dst (N := 1) rfl ?_); go_loud (refine box_event ?hg (N := 1) ?hd (cs := #[.slice Ap parts.length cp]) (t := 32) ?hr ?_; (case hd => rfl); (case hg => rfl); (case hr => first | (go_simp; done) | (go_simp; rfl)); intro ga hgb_ wb_ hcb_ hbb_; have HS_ := A0_ (Sp.boxed HS.out hgb_ hcb_ hbb_); clear HS; have HS := HS_; clear HS_; clear hgb_ hcb_ hbb_; have ha0 := (blk_cell (Sp.blk HS.out (i := 0) rfl).1 0).trans rfl))
      | (go_at_call 56; refine (HIA.out _ _ HS.out).mono ?_; rintro e wi_ ⟨rfl, hs_⟩; have HS_ := A0_ (hs_); clear HS; have HS := HS_; clear HS_; clear hs_ ha0; have ha0 := (blk_cell (Sp.blk HS.out (i := 0) rfl).1 0).trans rfl)
      | (go_at_call 57; refine (newTaking_calls w Ap cp parts HL.out _ _ HS.out).mono ?_; rintro e wt_ ⟨gt, g, gM, gS, As0, cs0, st0, hst_, rfl, hs_⟩; have HST0 := A0_ hst_; clear hst_; have HS_ := A0_ (hs_); clear HS; have HS := HS_; clear HS_; clear hs_ ha0))
    go_loopg [6] 1202 (fun kq v6 w' => ∃ (k : Nat) (As : Option Addr) (cs : Nat) (ST : List (RawSt × List Cb)), v6 = .int .i64 (k : Int) ∧ Aside0 (k ≤ ST.length ∧ kq + k = 1202 ∧ searchX parts (exB parts true) (1201 - k) (ndsOf ST) k = R ∧ (∀ p ∈ ST, p.2.length = parts.length) ∧ ST.length ≤ 1200 ∧ WfN (ndsOf ST)) ∧ Aside0 (Sp w (tkRes w.heap.size gt g gM gS Ap cp parts As cs ST ++ [Res.blk ga #[.slice Ap parts.length cp] 32]) w'))
    case atStart =>
      have h0 : ndsOf [(st0, zerosC parts.length)] = [(zerosC parts.length, -1, 0)] := by show [nodeOf (st0, zerosC parts.length)] = _; rw [show nodeOf (st0, zerosC parts.length) = (zerosC parts.length, st0.src, st0.mv) from rfl, HST0.out.1, HST0.out.2]
      exact ⟨0, As0, cs0, [(st0, zerosC parts.length)], rfl, ⟨by simp, by omega, by rw [HSR.out, h0], fun p hp => by obtain rfl := List.mem_singleton.1 hp; exact List.length_replicate, by simp, by rw [h0]; exact (rel_start parts.length).wf⟩, HS⟩
    case round =>
      clear HS
      obtain ⟨k, As, cs, ST, rfl, HX, HS⟩ := hrel
      obtain ⟨k1, rfl⟩ : ∃ k1, gk = k1 + 1 := ⟨gk - 1, by have := HX.out; omega⟩
      have htk1 : wr.cell? ⟨gt, 1, none⟩ = some (.slice As ST.length cs) := (blk_cell (Sp.blk HS.out (i := 0) rfl).1 1).trans rfl
      by_cases ck : k < ST.length
      · have ck0 : decide (k < ST.length) = true := decide_eq_true ck
        have HW := A0_ (wrap_succ k (by have := HX.out; omega))
        obtain ⟨p0, hp0⟩ : ∃ p0, ST[k]? = some p0 := ⟨ST[k], List.getElem?_eq_getElem ck⟩
        have hmem : p0 ∈ ST := List.mem_of_getElem? hp0
        have hgd : (ndAt (ndsOf ST) k).1 = p0.2 := by unfold ndAt; rw [List.getD_eq_getElem?_getD, List.getElem?_map, hp0]; rfl
        have hse := HX.out.2.2.1
        rw [show 1201 - k = (1200 - k) + 1 by have := HX.out; omega] at hse
        unfold searchX at hse
        rw [if_pos (by rw [List.length_map]; exact ck), hgd] at hse
        have hsp := fun w2 hs => spread_calls w Ap cp g gM gS gt parts HF.out HL.out As cs ST k p0 hp0 HX.out.2.2.2.1 HX.out.2.2.2.2.1 [Res.blk ga #[.slice Ap parts.length cp] 32] w2 hs
        have hol := HX.out.2.2.2.1 p0 hmem
        obtain ⟨hpn, hpc⟩ := Sp.poolN HS.out (i := 2) rfl hmem
        have hfc := fun Ao (hA : p0.1.A = some Ao) rs w2 (hs : Sp w ([frBlk g gM Ap cp parts, frMemo gM parts, Res.pool w.heap.size ST] ++ rs) w2) => free_calls w Ap cp g gM parts HF.out (Res.pool w.heap.size ST) Ao p0.1.c p0.2 (hA ▸ Rds.pool hmem) hol rs w2 hs
        have hnd : ((ST.map Prod.fst).getD k default) = p0.1 := by rw [List.getD_eq_getElem?_getD, List.getElem?_map, hp0]; rfl
        have HC := Sp.rds HS.out (i := 2) rfl (Rds.pool hmem)
        have HLE := A0_ (fun S' (h : spreadP parts p0.2 k (ndsOf ST) = some S') => spread_le _ h)
        have HWL := A0_ (fun S' (h : spreadP parts p0.2 k (ndsOf ST) = some S') => spread_wf (o := p0.2) (k := k) _ h HX.out.2.2.2.2.2 (by rw [List.length_map]; exact ck))
        obtain ⟨⟨A0, n0, co, s0, m0⟩, o⟩ := p0
        dsimp only at hpn hpc hol hgd HC hfc hsp hse hnd HLE HWL
        subst hpn
        obtain ⟨Ao, e, hjunk⟩ := HC.2.2 (by have := HL.out; omega)
        subst e
        have HFC := A0_ (hfc Ao rfl)
        have HSP := A0_ hsp
        have HND := A0_ (show (Value.slice ((ST.map Prod.fst).getD k default).A ((ST.map Prod.fst).getD k default).n ((ST.map Prod.fst).getD k default).c) = .slice (some Ao) o.length co by rw [hnd])
        have HKL := A0_ (show k < (ST.map Prod.fst).length by rw [List.length_map]; exact ck)
        have HCK := A0_ (show k < ST.length from ck)
        obtain ⟨fs, hfs⟩ : ∃ fs, fs = freeP parts o := ⟨_, rfl⟩
        have hexb : exB parts true o = decide (0 < fs.length) := by rw [hfs]; rfl
        rw [hexb] at hse
        rw [← hfs] at HFC
        have HGD := A0_ hgd
        have HFS := A0_ hfs
        have HSE := A0_ hse
        obtain ⟨ads, e, _⟩ := at_St (Sp.reads HS.out (i := 1) rfl).2.2 k (by rw [List.length_map]; exact ck)
        subst e
        have q0 : (0 ≤ (k : Int)) = True := eq_true (by omega)
        have q1 : ((k : Int) < (ST.length : Int)) = True := eq_true (by omega)
        have q2 : (k < ST.length) = True := eq_true ck
        clear HC hjunk hfc hsp hpc hol hse hexb hfs hgd hp0 hmem hnd ck
        go_wp2
        have HS_ := A0_ (show Sp w ([tkBlk gt g gS (some ads) ST.length cs, Res.row kSt 104 w.heap.size (.slice (some ads) ST.length cs) (ST.map Prod.fst), Res.pool w.heap.size ST, setR parts.length gS (ST.map Prod.snd), frBlk g gM Ap cp parts, frMemo gM parts, Res.blk ga #[.slice Ap parts.length cp] 32] ++ ([] : List Res)) wr.drew from Sp.drew HS.out)
        clear HS htk1
        have HS := HS_
        clear HS_
        refine start_ (n := 14) (S := fun w' => w'.cell? ⟨gt, 0, none⟩ = some (.pointer (some ⟨g, 0, none⟩)) ∧ w'.cell? ⟨gt, 1, none⟩ = some (.slice (some ads) ST.length cs) ∧ w'.cell? (ads.add (k * 3)) = some (.slice (some Ao) o.length co)) (ds := []) #[false, false, false, false, false, false, false, false, false, false, false, false, false, false] (by kernel_rfl) rfl rfl (⟨(blk_cell (Sp.blk HS.out (i := 0) rfl).1 0).trans rfl, (blk_cell (Sp.blk HS.out (i := 0) rfl).1 1).trans rfl, (HND.out ▸ (Sp.stCells HS.out (i := 1) rfl k HKL.out).1)⟩) (fun hHeld => ?_)
        refine with_tabW fexF.tab7 fexF.bits7 (fun HT_ HW_ => ?_)
        generalize wr.drew = wD at HS hHeld ⊢
        refine on_ 0 (some 22) ?_
        refine on_ 1 (some 23) ?_
        refine on_ 2 (some 24) ?_
        refine tk_ 3 (some 25) ?_
        refine on_ 4 (some 26) ?_
        refine on_ 5 (some 27) ?_
        refine on_ 6 (some 28) ?_
        refine tk_ 7 (some 29) ?_
        refine on_ 8 (some 30) ?_
        refine on_ 9 (some 31) ?_
        refine on_ 10 (some 32) ?_
        refine tk_ 11 (some 33) ?_
        refine o1_ 12 (some 34) (fun K hK => ?_)
        have HS_ := A0_ (Sp.arr (pre := [tkBlk gt g gS (some ads) ST.length cs, Res.row kSt 104 w.heap.size (.slice (some ads) ST.length cs) (ST.map Prod.fst), Res.pool w.heap.size ST, setR parts.length gS (ST.map Prod.snd), frBlk g gM Ap cp parts, frMemo gM parts, Res.blk ga #[.slice Ap parts.length cp] 32]) (pre' := [frBlk g gM Ap cp parts, frMemo gM parts, Res.pool w.heap.size ST, tkBlk gt g gS (some ads) ST.length cs, Res.row kSt 104 w.heap.size (.slice (some ads) ST.length cs) (ST.map Prod.fst), setR parts.length gS (ST.map Prod.snd), Res.blk ga #[.slice Ap parts.length cp] 32]) (rest := ([] : List Res)) [4, 5, 2, 0, 1, 3, 6] HS.out rfl rfl)
        clear HS
        have HS := HS_
        clear HS_
        refine goes_ Try.func66 (by kernel_rfl) rfl #[.pointer (some ⟨g, 0, none⟩), .slice (some Ao) o.length co] (by rfl) rfl rfl (by (try simp only [List.map_toArray, List.map_cons, List.map_nil]); first | done | rfl | (simp only [List.length_drop, List.length_take]; rfl)) ?_
        refine (HFC.out _ _ HS.out).mono ?_
        rintro e wm_ ⟨Am, cm, rfl, hs_⟩
        refine ⟨_, rfl, ?_⟩
        have HS_ := A0_ (hs_)
        clear HS
        have HS := HS_
        clear HS_
        clear hs_
        refine hK.out _ _ (⟨(blk_cell (Sp.blk HS.out (i := 4) rfl).1 0).trans rfl, (blk_cell (Sp.blk HS.out (i := 4) rfl).1 1).trans rfl, (HND.out ▸ (Sp.stCells HS.out (i := 5) rfl k HKL.out).1)⟩) (fun hHeld => ?_)
        clear hK K
        refine nm_ (some 34) ?_
        refine on_ 13 (some 7) ?_
        refine dn_ ?_
        have HS_ := A0_ (Sp.arr (pre := [Res.row kI 2 w.heap.size (.slice Am fs.length cm) fs, frBlk g gM Ap cp parts, frMemo gM parts, Res.pool w.heap.size ST, tkBlk gt g gS (some ads) ST.length cs, Res.row kSt 104 w.heap.size (.slice (some ads) ST.length cs) (ST.map Prod.fst), setR parts.length gS (ST.map Prod.snd), Res.blk ga #[.slice Ap parts.length cp] 32]) (pre' := [tkBlk gt g gS (some ads) ST.length cs, Res.row kSt 104 w.heap.size (.slice (some ads) ST.length cs) (ST.map Prod.fst), Res.pool w.heap.size ST, setR parts.length gS (ST.map Prod.snd), frBlk g gM Ap cp parts, frMemo gM parts, Res.row kI 2 w.heap.size (.slice Am fs.length cm) fs, Res.blk ga #[.slice Ap parts.length cp] 32]) (rest := ([] : List Res)) [4, 5, 3, 6, 1, 2, 0, 7] HS.out rfl rfl)
        clear HS
        have HS := HS_
        clear HS_
        by_cases hz : 0 < fs.length
        · have z0 : decide (0 < fs.length) = true := decide_eq_true hz
          have z1 := eq_true hz
          obtain ⟨adf, e, _⟩ := Kd.at_int (Sp.reads HS.out (i := 6) rfl).2.2 (0 : Int) (by omega) (by omega)
          subst e
          have HNE := A0_ (show 0 < fs.length from hz)
          obtain ⟨f0, hf0⟩ : ∃ f0, f0 = fs.getD 0 0 := ⟨_, rfl⟩
          have HF0 := A0_ (show Value.int .i64 (fs.getD 0 0) = .int .i64 f0 by rw [hf0])
          have HR := A0_ (show RV = (wayN (ndsOf ST) k, f0, 0) by
            have hse := HSE.out
            rw [if_pos z0] at hse
            rw [HRV.out, ← hse]
            dsimp only
            rw [if_neg (by omega), Int.toNat_natCast, HGD.out, ← HFS.out, hf0])
          clear hz hf0
          go_wp2
          have HS_ := A0_ (Sp.drew HS.out)
          clear HS
          have HS := HS_
          clear HS_
          refine start_ (n := 9) (S := fun w' => w'.cell? adf = some (.int .i64 f0)) (ds := []) #[false, false, false, false, false, false, false, false, false] (by kernel_rfl) rfl rfl ((HF0.out ▸ Sp.intCell0 HS.out (i := 6) rfl HNE.out)) (fun hHeld => ?_)
          refine with_tabW fexF.tab9 fexF.bits9 (fun HT_ HW_ => ?_)
          generalize wm_.drew = wD at HS hHeld ⊢
          refine on_ 0 (some 38) ?_
          refine on_ 1 (some 39) ?_
          refine on_ 3 (some 41) ?_
          refine on_ 4 (some 42) ?_
          refine tk_ 5 (some 43) ?_
          refine o1_ 2 (some 40) (fun K hK => ?_)
          refine goes_ Try.func67 (by kernel_rfl) rfl #[.pointer (some ⟨gt, 0, none⟩), .int .i64 k] (by rfl) rfl rfl (by (try simp only [List.map_toArray, List.map_cons, List.map_nil]); first | done | rfl | (simp only [List.length_drop, List.length_take]; rfl)) ?_
          refine (way_calls w gt g gM gS Ap cp parts (some ads) cs ST HX.out.2.2.2.2.2 HX.out.2.2.2.2.1 k HCK.out ([Res.row kI 2 w.heap.size (.slice (some adf) fs.length cm) fs, Res.blk ga #[.slice Ap parts.length cp] 32] ++ ([] : List Res)) _ HS.out).mono ?_
          rintro e wv_ ⟨Av, cv, rfl, hs_⟩
          refine ⟨_, rfl, ?_⟩
          have HS_ := A0_ (hs_)
          clear HS
          have HS := HS_
          clear HS_
          clear hs_
          refine hK.out _ _ ((HF0.out ▸ Sp.intCell0 HS.out (i := 7) rfl HNE.out)) (fun hHeld => ?_)
          clear hK K
          refine nm_ (some 40) ?_
          refine on_ 6 (some 2) ?_
          refine on_ 7 (some 3) ?_
          refine on_ 8 (some 4) ?_
          refine dn_ ?_
          try go_wp2
          go_ret3
          rw [HR.out]
          obtain ⟨fp_, hp_, _⟩ := Sp.get HS.out (i := 0) rfl
          exact ⟨_, rfl, Kd.R_mono hp_ (fun _ _ => trivial), HS.out.below⟩
        · have z0 : decide (0 < fs.length) = false := decide_eq_false hz
          have z1 := eq_false hz
          have hse := HSE.out
          rw [if_neg (by rw [z0]; simp)] at hse
          clear HSE hz
          have HS_ := A0_ (show Sp w (tkRes w.heap.size gt g gM gS Ap cp parts (some ads) cs ST ++ [Res.blk ga #[.slice Ap parts.length cp] 32]) _ from Sp.out HS.out 6)
          clear HS
          have HS := HS_
          clear HS_
          cases hv : spreadP parts o k (ndsOf ST) with
          | none =>
            have hsp := fun w2 hs => HSP.out w2 hs
            rw [show spreadP parts o k (ST.map nodeOf) = none from hv] at hsp
            rw [hv] at hse
            have HSP2 := A0_ hsp
            have HR := A0_ (show R = none from hse.symm)
            clear hse hsp hv HSP
            go_wp2_with (first
              | (go_at_call 58; refine (HSP2.out _ HS.out).mono ?_; rintro e ws_ hp_; obtain ⟨rfl, hb_⟩ := hp_; have HBL := A0_ hb_; clear hb_))
            go_ret3
            have hrv : RV = ([], 0, 3) := by rw [HRV.out, HR.out]
            exact ⟨_, by rw [hrv]; rfl, by rw [hrv]; exact Kd.R_nil kI 2 _ _ _, HBL.out⟩
          | some S' =>
            have hsp := fun w2 hs => HSP.out w2 hs
            rw [show spreadP parts o k (ST.map nodeOf) = some S' from hv] at hsp
            rw [hv] at hse
            have HSP2 := A0_ hsp
            have HLE2 := A0_ (HLE.out S' hv)
            have HWL2 := A0_ (HWL.out S' hv)
            have HSE := A0_ (show searchX parts (exB parts true) (1200 - k) S' (k + 1) = R from hse)
            clear hse hsp hv HSP HLE HWL
            go_wp2_with (first
              | (go_at_call 58; refine (HSP2.out _ HS.out).mono ?_; rintro e ws_ hp_; obtain ⟨rfl, As2, cs2, ST2, hm2_, hl2_, h12_, hs_⟩ := hp_; have HM2 := A0_ hm2_; have HL2 := A0_ hl2_; have H122 := A0_ h12_; have HS_ := A0_ (hs_); clear HS; have HS := HS_; clear HS_; clear hs_ hm2_ hl2_ h12_))
            go_roundg k1
            case measure => omega
            case rel =>
              rw [HW.out]
              exact ⟨k + 1, As2, cs2, ST2, rfl, ⟨by have h1 := HLE2.out; have h2 := HCK.out; rw [← HM2.out, List.length_map, List.length_map] at h1; omega, by have := HX.out; omega, by rw [show ndsOf ST2 = S' from HM2.out, show 1201 - (k + 1) = 1200 - k by omega]; exact HSE.out, HL2.out, H122.out, by rw [show ndsOf ST2 = S' from HM2.out]; exact HWL2.out⟩, HS⟩
      · have ck0 : decide (k < ST.length) = false := decide_eq_false ck
        have HR := A0_ (show R = some (ndsOf ST, -1) by
          have hse := HX.out.2.2.1
          rw [show 1201 - k = (1200 - k) + 1 by have := HX.out; omega] at hse
          unfold searchX at hse
          rw [if_neg (by rw [List.length_map]; exact ck)] at hse
          exact hse.symm)
        clear ck
        go_wp2
        go_ret3
        have hrv : RV = ([], 0, 4) := by rw [HRV.out, HR.out]; rfl
        exact ⟨_, by rw [hrv]; rfl, by rw [hrv]; exact Kd.R_nil kI 2 _ _ _, HS.out.below⟩
end Go.Proofs.Ytlbckkagjekhnaa.A

/- The statement's Leaves and Free answer as the program's. No program in sight. -/
namespace Go.Proofs.Ytlbckkagjekhnaa.A
open Go.RowKit Go.Proofs.YtlbckkagjekhnaaW.PrintWords Go.Proofs.YtlbckkagjekhnaaW.PrintLast Go.Proofs.YtlbckkagjekhnaaW.PrintMore
set_option linter.unusedVariables false
set_option linter.unusedSimpArgs false
/-- A loop that looks for a place that is not as it should be. -/
theorem ev_scan {N : Nat} {ok : Nat → Bool} {l : Int → Nat → Option Bool} {r : Bool} (hd : (List.range N).all ok = true → Ev (l (N : Int)) r)
    (hs : ∀ j q, j < N → ok j = true → Ev (l ((j + 1 : Nat) : Int)) q → Ev (l (j : Int)) q) (hb : ∀ j, j < N → ok j = false → Ev (l (j : Int)) false) : Ev (l 0) ((List.range N).all ok && r) := by
  have key : ∀ (n j : Nat), j + n = N → (List.range j).all ok = true → Ev (l (j : Int)) ((List.range N).all ok && r) := by
    intro n
    induction n with
    | zero =>
      intro j h ha
      have : j = N := by omega
      subst this
      rw [ha, Bool.true_and]
      exact hd ha
    | succ n ih =>
      intro j h ha
      cases c : ok j with
      | true => exact hs j _ (by omega) c (ih (j + 1) (by omega) (by rw [all_next ok j ha, c]))
      | false =>
        rw [all_no ok j N (by omega) c, Bool.false_and]
        exact hb j (by omega) c
  exact key N 0 (by omega) rfl
theorem wrap_assoc (a b c : Int) : wrap64 (wrap64 (a + b) + c) = wrap64 (a + wrap64 (b + c)) := by unfold wrap64; omega
theorem addC_assoc (a b c : Cb) : addC (addC a b) c = addC a (addC b c) := by
  unfold addC
  dsimp only
  rw [wrap_assoc, wrap_assoc, wrap_assoc]
theorem vec_small (d : Int) (hd : 0 ≤ d ∧ d < 6) : inCb (vecP d) (-1) 1 = true := by
  obtain h | h | h | h | h | h : d = 0 ∨ d = 1 ∨ d = 2 ∨ d = 3 ∨ d = 4 ∨ d = 5 := by omega
  all_goals subst h; rfl
theorem step_small (o v : Cb) (ho : inCb o (-12) 12 = true) (hv : inCb v (-1) 1 = true) : ∀ n : Nat, n ≤ 40 → inCb (stepO o v n) (-(12 + (n : Int))) (12 + (n : Int)) = true
  | 0, _ => by simpa [stepO] using ho
  | n + 1, hn => by
    have ih := step_small o v ho hv n (by omega)
    have h1 := inCb_mono ih (show (-200 : Int) ≤ -(12 + (n : Int)) by omega) (show 12 + (n : Int) ≤ 200 by omega)
    have h2 := inCb_mono hv (show (-200 : Int) ≤ -1 by omega) (show (1 : Int) ≤ 200 by omega)
    show inCb (addC (stepO o v n) v) _ _ = true
    rw [addC_small h1 h2]
    rw [inCb_iff] at ih hv ⊢
    dsimp only
    omega
theorem leaves_ev (parts : List (List Cb)) (offs : List Cb) (hl : offs.length = parts.length) (h8 : parts.length ≤ 8) (hsz : ∀ p ∈ parts, p.length ≤ 1048576) (hp : ∀ p ∈ parts, ∀ c ∈ p, inCb c 0 7 = true) (ho : ∀ j : Nat, j < offs.length → inCb (oAt offs j) (-12) 12 = true) (p : Nat) (hpl : p < parts.length) (d : Int) (hd : 0 ≤ d ∧ d < 6) :
    Ev (fun k => spec_l27Leaves.f k parts offs (p : Int) d) (leavesP parts offs p d) := by
  have hmem : ∀ i : Nat, i < parts.length → rd_L4 parts (i : Int) ∈ parts := fun i hi => by
    have : rd_L4 parts (i : Int) = parts[i] := by unfold rd_L4; simp [hi]
    rw [this]; exact List.getElem_mem _
  have hgo : ∀ i : Nat, rd_T69 offs (i : Int) = oAt offs i := fun i => rfl
  have i0 : (0 : Int) ≤ (p : Int) := by omega
  have i1 : (p : Int) < (parts.length : Int) := by omega
  have i2 : (p : Int) < (offs.length : Int) := by omega
  obtain ⟨P, hP⟩ : ∃ P, P = rd_L4 parts (p : Int) := ⟨_, rfl⟩
  have hPm : P ∈ parts := hP ▸ hmem p hpl
  have hPl := hsz P hPm
  obtain ⟨v, hv⟩ : ∃ v, v = vecP d := ⟨_, rfl⟩
  obtain ⟨o, hoe⟩ : ∃ o, o = oAt offs p := ⟨_, rfl⟩
  have hob : inCb o (-12) 12 = true := hoe ▸ ho p (by omega)
  have hvb : inCb v (-1) 1 = true := hv ▸ vec_small d hd
  have hmv : ∀ (l : List Cb) (x : Cb), (l.map fun c => addC c x).length = l.length := fun l x => List.length_map _
  refine Ev.congr (f := fun k => (spec_l09Move.f k P o.f0 o.f1 o.f2).bind fun t => spec_l27Leaves.l0 k offs (p : Int) d t 0 parts) (fun k => ?_) ?_
  · unfold spec_l27Leaves.f
    rw [if_pos i0, if_pos i1, if_pos i2, hgo, ← hP, ← hoe]
  refine Ev.bind (smove_ev P o hPl) ?_
  have hl0 : leavesP parts offs p d = ((List.range 40).all (fun j => aloneP parts offs p (stepO o v (j + 1))) && true) := by
    rw [Bool.and_true]
    unfold leavesP
    rw [Int.toNat_natCast, ← hv, ← hoe]
  rw [hl0]
  -- from j moves on
  have inner : ∀ (j : Nat) (q : Bool), j < 40 → (aloneP parts offs p (stepO o v (j + 1)) = true → Ev (fun k => spec_l27Leaves.l0 k offs (p : Int) d (P.map fun c => addC c (stepO o v (j + 1))) ((j + 1 : Nat) : Int) parts) q) →
      Ev (fun k => spec_l27Leaves.l0 k offs (p : Int) d (P.map fun c => addC c (stepO o v j)) (j : Int) parts) (aloneP parts offs p (stepO o v (j + 1)) && q) := by
    intro j q hj hq
    have e1 : ((P.map fun c => addC c (stepO o v j)).map fun c => addC c v) = P.map fun c => addC c (stepO o v (j + 1)) := by
      rw [List.map_map]
      refine List.map_congr_left fun c _ => ?_
      exact addC_assoc c (stepO o v j) v
    refine Ev.step (f := fun k => (spec_l09Move.f k (P.map fun c => addC c (stepO o v j)) v.f0 v.f1 v.f2).bind fun t => spec_l27Leaves.l1 k offs (p : Int) d t (j : Int) 0 parts) (fun k => ?_) (Ev.bind (smove_ev _ v (by rw [hmv]; exact hPl)) ?_)
    · simp only [spec_l27Leaves.l0, vec_eq d hd, Option.bind_some, ← hv, show (j : Int) < 40 from by omega, if_true]
    rw [e1]
    have hb := inCb_mono (step_small o v hob hvb (j + 1) (by omega)) (show (-60 : Int) ≤ _ by omega) (show _ ≤ (60 : Int) by omega)
    generalize stepO o v (j + 1) = x at hb hq ⊢
    unfold aloneP at hq ⊢
    refine ev_scan (l := fun y k => spec_l27Leaves.l1 k offs (p : Int) d (P.map fun c => addC c x) (j : Int) y parts) (fun hall => ?_) (fun i r hi hoi hr => ?_) (fun i hi hoi => ?_)
    · refine Ev.step (f := fun k => spec_l27Leaves.l0 k offs (p : Int) d (P.map fun c => addC c x) ((j + 1 : Nat) : Int) parts) (fun k => ?_) (hq hall)
      simp only [spec_l27Leaves.l1]
      rw [if_neg (by omega), wrap_succ j (by omega)]
    · have hw := wrap_succ i (by omega)
      by_cases c : (i : Int) = (p : Int)
      · refine Ev.step (f := fun k => spec_l27Leaves.l1 k offs (p : Int) d (P.map fun c => addC c x) (j : Int) ((i + 1 : Nat) : Int) parts) (fun k => ?_) hr
        simp only [spec_l27Leaves.l1, hw]
        rw [if_pos (by omega), if_pos c]
      · rw [decide_eq_false c, Bool.false_or, Bool.not_eq_true'] at hoi
        have hm := smeet_ev (P.map fun c => addC c x) ((rd_L4 parts (i : Int)).map fun c => addC c (oAt offs i)) (by rw [hmv]; exact hPl) (by rw [hmv]; exact hsz _ (hmem i (by omega)))
        rw [pair_wide P (rd_L4 parts (i : Int)) x (oAt offs i) (hp P hPm) (hp _ (hmem i (by omega))) hb (inCb_mono (ho i hi) (by omega) (by omega))] at hm
        have hto : touchP parts i p (subC x (oAt offs i)) = (inCb (subC x (oAt offs i)) (-7) 7 && meets (rd_L4 parts (i : Int)) P (subC x (oAt offs i))) := by rw [hP]; rfl
        rw [← hto, show touchP parts i p (subC x (oAt offs i)) = false from hoi] at hm
        refine Ev.step (f := fun k => (spec_l09Move.f k (rd_L4 parts (i : Int)) (oAt offs i).f0 (oAt offs i).f1 (oAt offs i).f2).bind fun t => (spec_l27Meet.f k (P.map fun c => addC c x) t).bind fun b => if b = true then some false else spec_l27Leaves.l1 k offs (p : Int) d (P.map fun c => addC c x) (j : Int) ((i + 1 : Nat) : Int) parts) (fun k => ?_) (Ev.bind (smove_ev _ _ (hsz _ (hmem i (by omega)))) (Ev.bind hm hr))
        simp only [spec_l27Leaves.l1, hw, hgo]
        rw [if_pos (by omega), if_neg c, if_pos (by omega), if_pos (by omega)]
    · have c : ¬ (i : Int) = (p : Int) := fun h => by rw [decide_eq_true h] at hoi; cases hoi
      rw [decide_eq_false c, Bool.false_or, Bool.not_eq_false'] at hoi
      have hm := smeet_ev (P.map fun c => addC c x) ((rd_L4 parts (i : Int)).map fun c => addC c (oAt offs i)) (by rw [hmv]; exact hPl) (by rw [hmv]; exact hsz _ (hmem i (by omega)))
      rw [pair_wide P (rd_L4 parts (i : Int)) x (oAt offs i) (hp P hPm) (hp _ (hmem i (by omega))) hb (inCb_mono (ho i hi) (by omega) (by omega))] at hm
      have hto : touchP parts i p (subC x (oAt offs i)) = (inCb (subC x (oAt offs i)) (-7) 7 && meets (rd_L4 parts (i : Int)) P (subC x (oAt offs i))) := by rw [hP]; rfl
      rw [← hto, show touchP parts i p (subC x (oAt offs i)) = true from hoi] at hm
      refine Ev.step (f := fun k => (spec_l09Move.f k (rd_L4 parts (i : Int)) (oAt offs i).f0 (oAt offs i).f1 (oAt offs i).f2).bind fun t => (spec_l27Meet.f k (P.map fun c => addC c x) t).bind fun b => if b = true then some false else spec_l27Leaves.l1 k offs (p : Int) d (P.map fun c => addC c x) (j : Int) ((i + 1 : Nat) : Int) parts) (fun k => ?_) (Ev.bind (smove_ev _ _ (hsz _ (hmem i (by omega)))) (Ev.bind hm (Ev.now _)))
      simp only [spec_l27Leaves.l1, wrap_succ i (by omega), hgo]
      rw [if_pos (by omega), if_neg c, if_pos (by omega), if_pos (by omega)]
  -- the loop of the moves
  have key : ∀ (n j : Nat), j + n = 40 → Ev (fun k => spec_l27Leaves.l0 k offs (p : Int) d (P.map fun c => addC c (stepO o v j)) (j : Int) parts) ((List.range n).all (fun i => aloneP parts offs p (stepO o v (j + i + 1))) && true) := by
    intro n
    induction n with
    | zero =>
      intro j h
      refine Ev.step (f := fun _ => some true) (fun k => by simp only [spec_l27Leaves.l0]; rw [if_neg (by omega)]) ?_
      exact Ev.now _
    | succ n ih =>
      intro j h
      have h2 := inner j _ (by omega) (fun _ => ih (j + 1) (by omega))
      have e : ((List.range (n + 1)).all (fun i => aloneP parts offs p (stepO o v (j + i + 1))) && true) = (aloneP parts offs p (stepO o v (j + 1)) && ((List.range n).all (fun i => aloneP parts offs p (stepO o v (j + 1 + i + 1))) && true)) := by
        rw [Bool.and_true, Bool.and_true, List.range_succ_eq_map, List.all_cons, List.all_map]
        congr 1
        refine congrArg (List.all (List.range n)) (funext fun i => ?_)
        show aloneP parts offs p (stepO o v (j + (i + 1) + 1)) = _
        rw [show j + (i + 1) + 1 = j + 1 + i + 1 by omega]
      rw [e]
      exact h2
  have h := key 40 0 (by omega)
  have e : (List.range 40).all (fun i => aloneP parts offs p (stepO o v (0 + i + 1))) = (List.range 40).all (fun i => aloneP parts offs p (stepO o v (i + 1))) := congrArg (List.all (List.range 40)) (funext fun i => by rw [Nat.zero_add])
  rw [e] at h
  exact h
theorem free_ev (parts : List (List Cb)) (offs : List Cb) (hl : offs.length = parts.length) (h8 : parts.length ≤ 8) (hsz : ∀ p ∈ parts, p.length ≤ 1048576) (hp : ∀ p ∈ parts, ∀ c ∈ p, inCb c 0 7 = true) (ho : ∀ j : Nat, j < offs.length → inCb (oAt offs j) (-12) 12 = true) :
    Ev (fun k => spec_l27Free.f k parts offs) (freeP parts offs) := by
  obtain ⟨r, hr, hk⟩ : ∃ r, r = freeP parts offs ∧ Ev (fun k => spec_l27Free.l0 k offs [] 0 parts) r := by
    refine ev_inv0 (6 * parts.length) (fun (s : List Int) j => s = freeK parts offs j) (fun r => r = freeP parts offs) (fun s i k => spec_l27Free.l0 k offs s i parts) (fun s hI => ?_) (fun s j hj hI => ?_) [] rfl
    · refine ⟨s, hI, Ev.step (f := fun _ => some s) (fun k => by simp only [spec_l27Free.l0]; rw [wrap_id (by omega) (by omega), if_neg (by omega)]) (Ev.now _)⟩
    · have hw := wrap_succ j (by omega)
      have hsl : s.length < 17592186044416 := by
        rw [hI]
        have := freeK_len parts offs j
        omega
      have e1 : wrap64 ((j : Int).tdiv 6) = ((j / 6 : Nat) : Int) := by rw [show (j : Int).tdiv 6 = ((j / 6 : Nat) : Int) from rfl, wrap_id (by omega) (by omega)]
      have e2 : (j : Int).tmod 6 = ((j % 6 : Nat) : Int) := rfl
      have hle := leaves_ev parts offs hl h8 hsz hp ho (j / 6) (by omega) ((j % 6 : Nat) : Int) (by omega)
      have hst := freeK_succ parts offs j
      refine .inr ⟨freeK parts offs (j + 1), rfl, fun r h2 => ?_⟩
      refine Ev.step (f := fun k => (spec_l27Leaves.f k parts offs ((j / 6 : Nat) : Int) ((j % 6 : Nat) : Int)).bind fun t => if t = true then spec_l27Free.l0 k offs (s ++ [(j : Int)]) ((j + 1 : Nat) : Int) parts else spec_l27Free.l0 k offs s ((j + 1 : Nat) : Int) parts) (fun k => ?_) (Ev.bind hle ?_)
      · simp only [spec_l27Free.l0, hw, e1, e2]
        rw [wrap_id (by omega) (by omega), if_pos (by omega)]
        simp only [hsl, if_true]
      · cases hb : leavesP parts offs ((j / 6 : Nat) : Int) ((j % 6 : Nat) : Int) with
        | true =>
          rw [hst, hb, if_pos rfl, ← hI] at h2
          exact h2
        | false =>
          rw [hst, hb, if_neg (by simp), List.append_nil, ← hI] at h2
          exact h2
  rw [← hr]
  exact hk
end Go.Proofs.Ytlbckkagjekhnaa.A

/- spec.l28Exit, walked; what both sides answer on exits. -/
namespace Go.Proofs.Ytlbckkagjekhnaa.A
open Go.RowKit Go.Proofs.YtlbckkagjekhnaaW.PrintWords Go.Proofs.YtlbckkagjekhnaaW.PrintLast Go.Proofs.YtlbckkagjekhnaaW.PrintMore
set_option linter.unusedVariables false
set_option linter.unusedSimpArgs false
/-- The way to an exit, the offsets there, and the code. -/
def exitW (parts : List (List Cb)) : List Int × List Cb × Int :=
  if asmP parts = true then (match searchW parts (exB parts true) 1201 [(zerosC parts.length, [])] 0 with
    | none => ([], [], 3)
    | some (T, i) => if i < 0 then ([], [], 4) else ((pwAt T i.toNat).2, (pwAt T i.toNat).1, 0)) else ([], [], 1)
theorem near_at (o : List Cb) (h : o.any (fun c => !inCb c (-3) 3) = false) : ∀ j : Nat, j < o.length → inCb (oAt o j) (-12) 12 = true := fun j hj => by
  have e : oAt o j = o[j] := by simp [oAt, List.getD_eq_getElem?_getD, hj]
  rw [e]
  rw [List.any_eq_false] at h
  have h2 := h o[j] (List.getElem_mem hj)
  rw [Bool.not_eq_true', Bool.not_eq_false] at h2
  exact inCb_mono h2 (by omega) (by omega)
theorem sfree_at {parts : List (List Cb)} (hz : SzOk parts) (h : asmP parts = true) : ∀ o : List Cb, o.length = parts.length → o.any (fun c => !inCb c (-3) 3) = false → ∃ K, spec_l27Free.f K parts o = some (freeP parts o) := fun o ho hn =>
  (free_ev parts o ho (by have := (asm_of h).1; omega) hz.each (fun p hp => ((asm_of h).2 p hp).2) (near_at o hn)).rounds
def exiF.T8 : Bool × List (List Nat × List Nat) := (true, [([], []), ([0], [0]), ([1], [1]), ([2], [2]), ([], []), ([3, 4], [3, 4]), ([5], [5]), ([], []), ([7], [7]), ([8], [8]), ([9], [9]), ([], []), ([10, 11], [10, 11]), ([12], [12]), ([6, 0, 1, 2, 3, 4, 5, 6], [6]), ([13, 14, 0, 1, 2, 3, 4, 5, 6, 7, 8, 9, 10, 11, 12, 13, 14], [13]), ([15, 0, 1, 2, 3, 4, 5, 6, 7, 8, 9, 10, 11, 12, 13, 14, 15], [])])
def exiF.B8 : List Nat := [0, 1, 3, 7, 0, 31, 63, 0, 128, 384, 896, 0, 3968, 8064, 127, 32767, 65535]
theorem exiF.tab8 : rtab .any (opsOf Try.f59 8) = exiF.T8 := by kernel_rfl
theorem exiF.bits8 : waitsOk exiF.T8.2 exiF.B8 = true := by kernel_rfl
set_option maxHeartbeats 8000000 in
set_option maxRecDepth 100000 in
theorem sExit_calls (Ap : Option Addr) (cp : Nat) (parts : List (List Cb)) (w : World) (hC : kP.C w Ap parts.length parts) (hcp : parts.length ≤ cp) (hz : SzOk parts) :
    Calls Try.prog 59 #[.agg #[.slice Ap parts.length cp]] w fun e w' => ∃ v1_ v2_ : Value, e = .returned (.tuple #[v1_, v2_, .int .i64 (exitW parts).2.2]) ∧ kI.R 2 w' w.heap.size (fun _ => True) v1_ (exitW parts).1 ∧ kC.R 69 w' w.heap.size (fun _ => True) v2_ (exitW parts).2.1 ∧ Below w.heap.size w w' := by
  have hu32 := Try.underlying32
  have hu83 := Try.underlying83
  have HS := A0_ (Sp.start w)
  have hia := fun w' (hb : Below w.heap.size w w') => sIsAsm_calls Ap cp parts w' (Kd.C_below hC hb) hcp hz
  cases has : asmP parts with
  | false =>
    rw [has] at hia
    have HIA := A0_ hia
    have HST := A0_ (show exitW parts = ([], [], 1) by unfold exitW; rw [has, if_neg (by simp)])
    clear has hia hC hz
    rw [HST.out]
    go_enter Try.func59, Try.ntmps59
    go_wp2_with (first
      | ((with_reducible refine gate_dst (N := 1) rfl ?_); go_loud (refine box_event ?hg (N := 1) ?hd (cs := #[.slice Ap parts.length cp]) (t := 32) ?hr ?_; (case hd => rfl); (case hg => rfl); (case hr => first | (go_simp; done) | (go_simp; rfl)); intro ga hgb_ wb_ hcb_ hbb_; have HS_ := A0_ (Sp.boxed HS.out hgb_ hcb_ hbb_); clear HS; have HS := HS_; clear HS_; clear hgb_ hcb_ hbb_; have ha0 := (blk_cell (Sp.blk HS.out (i := 0) rfl).1 0).trans rfl))
      | (go_at_call 54; refine (HIA.out _ HS.out.below).mono ?_; rintro e wi_ ⟨rfl, hb_⟩; have HS_ := A0_ (Sp.far HS.out hb_); clear HS; have HS := HS_; clear HS_; clear hb_ ha0))
    go_ret3
    exact ⟨_, _, rfl, Kd.R_nil kI 2 _ _ _, Kd.R_nil kC 69 _ _ _, HS.out.below⟩
  | true =>
    rw [has] at hia
    have HIA := A0_ hia
    have hlen := (asm_of has).1
    have HST := A0_ (show exitW parts = (match searchW parts (exB parts true) 1201 [(zerosC parts.length, [])] 0 with
      | none => ([], [], 3)
      | some (T, i) => if i < 0 then ([], [], 4) else ((pwAt T i.toNat).2, (pwAt T i.toNat).1, 0)) by unfold exitW; rw [has, if_pos rfl])
    have HSE := A0_ (fun rs w2 (hs : Sp w rs w2) => search_calls w Ap cp parts (fr_at hC hz has) hcp (by omega) (spec_ok parts.length (by omega)) (smoves_at hz has) true (fun _ => sfree_at hz has) rs w2 hs)
    have HRX := A0_ (show RelX (exitX parts) (searchW parts (exB parts true) 1201 [(zerosC parts.length, [])] 0) from search_rel parts (exB parts true) 1201 _ _ 0 (rel_start parts.length))
    clear has hia hC hz hlen
    obtain ⟨RV, hRV⟩ : ∃ RV, RV = exitW parts := ⟨_, rfl⟩
    have HRV := A0_ (hRV.trans HST.out)
    rw [← hRV]
    clear hRV HST
    generalize searchW parts (exB parts true) 1201 [(zerosC parts.length, [])] 0 = R at HSE HRV HRX
    cases R with
    | none =>
      have HRW := A0_ (show RV = ([], [], 3) from HRV.out)
      clear HRV HRX
      go_enter Try.func59, Try.ntmps59
      go_wp2_with (first
        | ((with_reducible refine gate_dst (N := 1) rfl ?_); go_loud (refine box_event ?hg (N := 1) ?hd (cs := #[.slice Ap parts.length cp]) (t := 32) ?hr ?_; (case hd => rfl); (case hg => rfl); (case hr => first | (go_simp; done) | (go_simp; rfl)); intro ga hgb_ wb_ hcb_ hbb_; have HS_ := A0_ (Sp.boxed HS.out hgb_ hcb_ hbb_); clear HS; have HS := HS_; clear HS_; clear hgb_ hcb_ hbb_; have ha0 := (blk_cell (Sp.blk HS.out (i := 0) rfl).1 0).trans rfl))
        | (go_at_call 54; refine (HIA.out _ HS.out.below).mono ?_; rintro e wi_ ⟨rfl, hb_⟩; have HS_ := A0_ (Sp.far HS.out hb_); clear HS; have HS := HS_; clear HS_; clear hb_ ha0; have ha0 := (blk_cell (Sp.blk HS.out (i := 0) rfl).1 0).trans rfl)
        | (go_at_call 55; refine (HSE.out _ _ HS.out).mono ?_; rintro e ws_ ⟨gs, i_, rfl, _, Ao, co, Aw, cw, PS, WS, hok_, hs_⟩; have HS_ := A0_ (hs_); clear HS; have HS := HS_; clear HS_; clear hs_ hok_ ha0; have hs0 := (blk_cell (Sp.blk HS.out (i := 0) rfl).1 0).trans rfl; have hs2 := (blk_cell (Sp.blk HS.out (i := 0) rfl).1 2).trans rfl))
      go_ret3
      rw [HRW.out]
      exact ⟨_, _, rfl, Kd.R_nil kI 2 _ _ _, Kd.R_nil kC 69 _ _ _, HS.out.below⟩
    | some r =>
      obtain ⟨T, i⟩ := r
      by_cases hi : i < 0
      · have HRW := A0_ (show RV = ([], [], 4) by rw [HRV.out]; exact if_pos hi)
        have i0 : decide (i < 0) = true := decide_eq_true hi
        have i1 := eq_true hi
        clear HRV HRX hi
        go_enter Try.func59, Try.ntmps59
        go_wp2_with (first
          | ((with_reducible refine gate_dst (N := 1) rfl ?_); go_loud (refine box_event ?hg (N := 1) ?hd (cs := #[.slice Ap parts.length cp]) (t := 32) ?hr ?_; (case hd => rfl); (case hg => rfl); (case hr => first | (go_simp; done) | (go_simp; rfl)); intro ga hgb_ wb_ hcb_ hbb_; have HS_ := A0_ (Sp.boxed HS.out hgb_ hcb_ hbb_); clear HS; have HS := HS_; clear HS_; clear hgb_ hcb_ hbb_; have ha0 := (blk_cell (Sp.blk HS.out (i := 0) rfl).1 0).trans rfl))
          | (go_at_call 54; refine (HIA.out _ HS.out.below).mono ?_; rintro e wi_ ⟨rfl, hb_⟩; have HS_ := A0_ (Sp.far HS.out hb_); clear HS; have HS := HS_; clear HS_; clear hb_ ha0; have ha0 := (blk_cell (Sp.blk HS.out (i := 0) rfl).1 0).trans rfl)
          | (go_at_call 55; refine (HSE.out _ _ HS.out).mono ?_; rintro e ws_ ⟨gs, i_, rfl, hj_, Ao, co, Aw, cw, PS, WS, hok_, hm_, hs_⟩; obtain rfl := hj_ T i rfl; have HS_ := A0_ (hs_); clear HS; have HS := HS_; clear HS_; clear hs_ hok_ hm_ ha0 hj_; have hs0 := (blk_cell (Sp.blk HS.out (i := 0) rfl).1 0).trans rfl; have hs2 := (blk_cell (Sp.blk HS.out (i := 0) rfl).1 2).trans rfl))
        go_ret3
        rw [HRW.out]
        exact ⟨_, _, rfl, Kd.R_nil kI 2 _ _ _, Kd.R_nil kC 69 _ _ _, HS.out.below⟩
      · have HRW := A0_ (show RV = ((pwAt T i.toNat).2, (pwAt T i.toNat).1, 0) by rw [HRV.out]; exact if_neg hi)
        obtain ⟨k, hk, hkl⟩ : ∃ k : Nat, i = (k : Int) ∧ k < T.length := by
          have h := HRX.out
          cases hx : exitX parts with
          | none => rw [hx] at h; exact h.elim
          | some r2 =>
            rw [hx] at h
            obtain ⟨S2, i2⟩ := r2
            obtain ⟨h1, h2, h3⟩ := h
            rcases h3 with h3 | ⟨k, h3, h4⟩
            · exact absurd (show i < 0 by omega) hi
            · exact ⟨k, by rw [← h2, h3], by rw [← h1.len]; exact h4⟩
        subst hk
        rw [Int.toNat_natCast] at HRW
        have HKT := A0_ hkl
        have i0 : decide ((k : Int) < 0) = false := decide_eq_false hi
        have i1 := eq_false hi
        clear HRV HRX hi hkl
        go_enter Try.func59, Try.ntmps59
        go_wp2_with (first
          | ((with_reducible refine gate_dst (N := 1) rfl ?_); go_loud (refine box_event ?hg (N := 1) ?hd (cs := #[.slice Ap parts.length cp]) (t := 32) ?hr ?_; (case hd => rfl); (case hg => rfl); (case hr => first | (go_simp; done) | (go_simp; rfl)); intro ga hgb_ wb_ hcb_ hbb_; have HS_ := A0_ (Sp.boxed HS.out hgb_ hcb_ hbb_); clear HS; have HS := HS_; clear HS_; clear hgb_ hcb_ hbb_; have ha0 := (blk_cell (Sp.blk HS.out (i := 0) rfl).1 0).trans rfl))
          | (go_at_call 54; refine (HIA.out _ HS.out.below).mono ?_; rintro e wi_ ⟨rfl, hb_⟩; have HS_ := A0_ (Sp.far HS.out hb_); clear HS; have HS := HS_; clear HS_; clear hb_ ha0; have ha0 := (blk_cell (Sp.blk HS.out (i := 0) rfl).1 0).trans rfl)
          | (go_at_call 55; refine (HSE.out _ _ HS.out).mono ?_; rintro e ws_ ⟨gs, i_, rfl, hj_, Ao, co, Aw, cw, PS, WS, hok_, hm_, hs_⟩; obtain rfl := hj_ T k rfl; have HOK := A0_ hok_; have HM := A0_ hm_; have HS_ := A0_ (hs_); clear HS; have HS := HS_; clear HS_; clear hs_ hok_ hm_ ha0 hj_; have hs0 := (blk_cell (Sp.blk HS.out (i := 0) rfl).1 0).trans rfl; have hs2 := (blk_cell (Sp.blk HS.out (i := 0) rfl).1 2).trans rfl))
        have hlt : ndW PS WS = T := HM.out
        have hpl : k < PS.length := by have := HKT.out; rw [← hlt, ndW_len HOK.out.len] at this; exact this
        have hwl : k < WS.length := by rw [← HOK.out.len]; exact hpl
        obtain ⟨p0, hp0⟩ : ∃ p0, PS[k]? = some p0 := ⟨PS[k], List.getElem?_eq_getElem hpl⟩
        obtain ⟨q0, hq0⟩ : ∃ q0, WS[k]? = some q0 := ⟨WS[k], List.getElem?_eq_getElem hwl⟩
        have hpw : pwAt T k = (p0.2, q0.2) := by
          have hz : ((PS.map Prod.snd).zip (WS.map Prod.snd))[k]? = some (p0.2, q0.2) := List.getElem?_zip_eq_some.2 ⟨by rw [List.getElem?_map, hp0]; rfl, by rw [List.getElem?_map, hq0]; rfl⟩
          unfold pwAt
          rw [← hlt, List.getD_eq_getElem?_getD, hz]
          rfl
        have hpm : p0 ∈ PS := List.mem_of_getElem? hp0
        have hqm : q0 ∈ WS := List.mem_of_getElem? hq0
        obtain ⟨g1, g2, _⟩ := Sp.poolGC HS.out (i := 2) rfl hpm
        obtain ⟨f1, f2, _⟩ := Sp.poolGC HS.out (i := 4) rfl hqm
        obtain ⟨⟨A0, n0, c0⟩, o⟩ := p0
        obtain ⟨⟨A1, n1, c1⟩, wy⟩ := q0
        dsimp only at g1 g2 f1 f2 hpw
        subst g1
        subst f1
        have HPW := A0_ hpw
        have HPM := A0_ hpm
        have HQM := A0_ hqm
        have HG0 := A0_ (show slV ((PS.map Prod.fst).getD k (none, 0, 0)) = .slice A0 o.length c0 by rw [List.getD_eq_getElem?_getD, List.getElem?_map, hp0]; rfl)
        have HG1 := A0_ (show slV ((WS.map Prod.fst).getD k (none, 0, 0)) = .slice A1 wy.length c1 by rw [List.getD_eq_getElem?_getD, List.getElem?_map, hq0]; rfl)
        have HCK := A0_ hpl
        have HCW := A0_ hwl
        obtain ⟨adp, e, _⟩ := at_Sl (Sp.reads HS.out (i := 1) rfl).2.2 k (by rw [List.length_map]; exact hpl)
        subst e
        obtain ⟨adw, e, _⟩ := at_Sl (Sp.reads HS.out (i := 3) rfl).2.2 k (by rw [List.length_map]; exact hwl)
        subst e
        have q0_ : (0 ≤ (k : Int)) = True := eq_true (by omega)
        have q1_ : ((k : Int) < (PS.length : Int)) = True := eq_true (by omega)
        have q2_ : ((k : Int) < (WS.length : Int)) = True := eq_true (by omega)
        clear hlt hpl hwl hp0 hq0 hpw hpm hqm g2 f2
        go_wp2
        have HS_ := A0_ (show Sp w ([srBlk gs (some adp) PS.length co (some adw) WS.length cw false, posR w.heap.size (some adp) co PS, Res.poolG kC 69 w.heap.size PS, wayR w.heap.size (some adw) cw WS, Res.poolG kI 2 w.heap.size WS, Res.blk ga #[.slice Ap parts.length cp] 32] ++ ([] : List Res)) ws_.drew from Sp.drew HS.out)
        clear HS hs0 hs2
        have HS := HS_
        clear HS_
        refine start_ (n := 17) (S := fun w' => w'.cell? ⟨gs, 0, none⟩ = some (.slice (some adp) PS.length co) ∧ w'.cell? ⟨gs, 1, none⟩ = some (.slice (some adw) WS.length cw) ∧ w'.cell? (adp.add k) = some (.slice A0 o.length c0) ∧ w'.cell? (adw.add k) = some (.slice A1 wy.length c1)) (ds := []) #[false, false, false, false, false, false, false, false, false, false, false, false, false, false, false, false, false] (by kernel_rfl) rfl rfl (⟨(blk_cell (Sp.blk HS.out (i := 0) rfl).1 0).trans rfl, (blk_cell (Sp.blk HS.out (i := 0) rfl).1 1).trans rfl, (HG0.out ▸ Sp.slCell HS.out (i := 1) rfl k HCK.out), (HG1.out ▸ Sp.slCell HS.out (i := 3) rfl k HCW.out)⟩) (fun hHeld => ?_)
        refine with_tabW exiF.tab8 exiF.bits8 (fun HT_ HW_ => ?_)
        generalize ws_.drew = wD at HS hHeld ⊢
        refine on_ 0 (some 21) ?_
        refine on_ 1 (some 22) ?_
        refine on_ 2 (some 23) ?_
        refine tk_ 3 (some 24) ?_
        refine on_ 4 (some 25) ?_
        refine on_ 5 (some 26) ?_
        refine tk_ 6 (some 27) ?_
        refine on_ 7 (some 28) ?_
        refine on_ 8 (some 29) ?_
        refine on_ 9 (some 30) ?_
        refine tk_ 10 (some 31) ?_
        refine on_ 11 (some 32) ?_
        refine on_ 12 (some 33) ?_
        refine tk_ 13 (some 34) ?_
        refine on_ 14 (some 2) ?_
        refine on_ 15 (some 3) ?_
        refine on_ 16 (some 4) ?_
        refine dn_ ?_
        try go_wp2
        go_ret3
        rw [HRW.out, HPW.out]
        obtain ⟨fp_, hp_, _⟩ := Sp.get HS.out (i := 2) rfl
        obtain ⟨fq_, hq_, _⟩ := Sp.get HS.out (i := 4) rfl
        exact ⟨_, _, rfl, Kd.R_mono (hq_ _ HQM.out) (fun _ _ => trivial), Kd.R_mono (hp_ _ HPM.out) (fun _ _ => trivial), HS.out.below⟩
end Go.Proofs.Ytlbckkagjekhnaa.A

/- LevelOf and FindExit of both sides. -/
namespace Go.Proofs.Ytlbckkagjekhnaa.A
open Go.RowKit Go.Proofs.YtlbckkagjekhnaaW.PrintWords Go.Proofs.YtlbckkagjekhnaaW.PrintLast Go.Proofs.YtlbckkagjekhnaaW.PrintMore
set_option linter.unusedVariables false
set_option linter.unusedSimpArgs false
theorem exit_same (parts : List (List Cb)) : exitR parts = (if (exitW parts).2.2 = 0 then ((exitW parts).1, (freeP parts (exitW parts).2.1).getD 0 0, 0) else ([], 0, (exitW parts).2.2)) := by
  unfold exitR exitW
  by_cases c : asmP parts = true
  · rw [if_pos c, if_pos c]
    have h := search_rel parts (exB parts true) 1201 _ _ 0 (rel_start parts.length)
    unfold exitX
    cases hx : searchX parts (exB parts true) 1201 [(zerosC parts.length, -1, 0)] 0 with
    | none =>
      cases hw : searchW parts (exB parts true) 1201 [(zerosC parts.length, [])] 0 with
      | none => rfl
      | some r => rw [hx, hw] at h; exact h.elim
    | some s =>
      cases hw : searchW parts (exB parts true) 1201 [(zerosC parts.length, [])] 0 with
      | none => rw [hx, hw] at h; exact h.elim
      | some r =>
        rw [hx, hw] at h
        obtain ⟨S, i⟩ := s
        obtain ⟨T, j⟩ := r
        obtain ⟨h1, h2, h3⟩ := h
        subst h2
        dsimp only
        by_cases d : i < 0
        · simp only [if_pos d]; rfl
        · simp only [if_neg d]
          rcases h3 with h3 | ⟨k, h3, h4⟩
          · omega
          · subst h3
            rw [Int.toNat_natCast, h1.way k h4, h1.at k]
            rfl
  · rw [if_neg c, if_neg c]; rfl
def levelR (parts : List (List Cb)) : Int × Int := if (exitR parts).2.2 = 0 then (((exitR parts).1.length : Int) + 1, 0) else (0, (exitR parts).2.2)
theorem level_same (parts : List (List Cb)) : levelR parts = (if (exitW parts).2.2 = 0 then (((exitW parts).1.length : Int) + 1, 0) else (0, (exitW parts).2.2)) := by
  unfold levelR
  rw [exit_same]
  by_cases c : (exitW parts).2.2 = 0
  · rw [if_pos c, if_pos c]; rfl
  · rw [if_neg c, if_neg c, if_neg (show ¬ (([], 0, (exitW parts).2.2) : List Int × Int × Int).2.2 = 0 from c)]
theorem iLevel_calls (Ap : Option Addr) (cp : Nat) (parts : List (List Cb)) (w : World) (hC : kP.C w Ap parts.length parts) (hz : SzOk parts) (hwl : (exitR parts).1.length ≤ 1200) :
    Calls Try.prog 26 #[.agg #[.slice Ap parts.length cp]] w fun e w' => e = .returned (.tuple #[.int .i64 (levelR parts).1, .int .i64 (levelR parts).2]) ∧ Below w.heap.size w w' := by
  have hu32 := Try.underlying32
  have HS := A0_ (Sp.start w)
  have HFE := A0_ (fun w' (hb : Below w.heap.size w w') => findExit_calls Ap cp parts w' (Kd.C_below hC hb) hz)
  have HLV := A0_ (show levelR parts = if (exitR parts).2.2 = 0 then (((exitR parts).1.length : Int) + 1, 0) else (0, (exitR parts).2.2) from rfl)
  obtain ⟨LV, hLV⟩ : ∃ LV, LV = levelR parts := ⟨_, rfl⟩
  rw [← hLV] at HLV ⊢
  obtain ⟨wy, f0, cd, hx⟩ : ∃ wy f0 cd, exitR parts = (wy, f0, cd) := ⟨_, _, _, rfl⟩
  rw [hx] at HFE HLV hwl
  dsimp only at HFE HLV hwl
  have HWL := A0_ hwl
  clear hC hz hLV hx hwl
  by_cases hc : cd = 0
  · subst hc
    have HL := A0_ (show LV = (wrap64 ((wy.length : Int) + 1), 0) by rw [show LV = ((wy.length : Int) + 1, 0) from HLV.out, wrap_id (by omega) (by have := HWL.out; omega)])
    clear HLV
    go_enter Try.func26, Try.ntmps26
    go_wp2_with (first
      | ((with_reducible refine gate_dst (N := 1) rfl ?_); go_loud (refine box_event ?hg (N := 1) ?hd (cs := #[.slice Ap parts.length cp]) (t := 32) ?hr ?_; (case hd => rfl); (case hg => rfl); (case hr => first | (go_simp; done) | (go_simp; rfl)); intro ga hgb_ wb_ hcb_ hbb_; have HS_ := A0_ (Sp.boxed HS.out hgb_ hcb_ hbb_); clear HS; have HS := HS_; clear HS_; clear hgb_ hcb_ hbb_; have ha0 := (blk_cell (Sp.blk HS.out (i := 0) rfl).1 0).trans rfl))
      | (go_at_call 33; refine (HFE.out _ HS.out.below).mono ?_; rintro e wi_ ⟨vi_, rfl, hr_, hb_⟩; have HS_ := A0_ (Sp.made' HS.out hb_ hr_); clear HS; have HS := HS_; clear HS_; obtain ⟨Aw, cw, rfl⟩ := Kd.R_slice hr_; clear hb_ hr_ ha0))
    go_ret2
    exact ⟨by rw [HL.out]; rfl, HS.out.below⟩
  · have HL := A0_ (show LV = (0, cd) by rw [HLV.out]; exact if_neg hc)
    have c0 : (cd == 0) = false := by rw [beq_eq_false_iff_ne]; exact hc
    have c1 : (cd != 0) = true := by rw [bne_iff_ne]; exact hc
    have c2 : (cd = 0) = False := eq_false hc
    clear HLV hc
    go_enter Try.func26, Try.ntmps26
    go_wp2_with (first
      | ((with_reducible refine gate_dst (N := 1) rfl ?_); go_loud (refine box_event ?hg (N := 1) ?hd (cs := #[.slice Ap parts.length cp]) (t := 32) ?hr ?_; (case hd => rfl); (case hg => rfl); (case hr => first | (go_simp; done) | (go_simp; rfl)); intro ga hgb_ wb_ hcb_ hbb_; have HS_ := A0_ (Sp.boxed HS.out hgb_ hcb_ hbb_); clear HS; have HS := HS_; clear HS_; clear hgb_ hcb_ hbb_; have ha0 := (blk_cell (Sp.blk HS.out (i := 0) rfl).1 0).trans rfl))
      | (go_at_call 33; refine (HFE.out _ HS.out.below).mono ?_; rintro e wi_ ⟨vi_, rfl, hr_, hb_⟩; have HS_ := A0_ (Sp.far HS.out hb_); clear HS; have HS := HS_; clear HS_; clear hb_ hr_ ha0))
    go_ret2
    exact ⟨by rw [HL.out]; rfl, HS.out.below⟩
theorem sLevel_calls (Ap : Option Addr) (cp : Nat) (parts : List (List Cb)) (w : World) (hC : kP.C w Ap parts.length parts) (hcp : parts.length ≤ cp) (hz : SzOk parts) (hwl : (exitW parts).1.length ≤ 1200) :
    Calls Try.prog 25 #[.agg #[.slice Ap parts.length cp]] w fun e w' => e = .returned (.tuple #[.int .i64 (levelR parts).1, .int .i64 (levelR parts).2]) ∧ Below w.heap.size w w' := by
  have hu32 := Try.underlying32
  have HS := A0_ (Sp.start w)
  have HFE := A0_ (fun w' (hb : Below w.heap.size w w') => sExit_calls Ap cp parts w' (Kd.C_below hC hb) hcp hz)
  have HLV := A0_ (level_same parts)
  obtain ⟨LV, hLV⟩ : ∃ LV, LV = levelR parts := ⟨_, rfl⟩
  rw [← hLV] at HLV ⊢
  obtain ⟨wy, f0, cd, hx⟩ : ∃ wy f0 cd, exitW parts = (wy, f0, cd) := ⟨_, _, _, rfl⟩
  rw [hx] at HFE HLV hwl
  dsimp only at HFE HLV hwl
  have HWL := A0_ hwl
  clear hC hz hLV hx hwl
  by_cases hc : cd = 0
  · subst hc
    have HL := A0_ (show LV = (wrap64 ((wy.length : Int) + 1), 0) by rw [show LV = ((wy.length : Int) + 1, 0) from HLV.out, wrap_id (by omega) (by have := HWL.out; omega)])
    clear HLV
    go_enter Try.func25, Try.ntmps25
    go_wp2_with (first
      | ((with_reducible refine gate_dst (N := 1) rfl ?_); go_loud (refine box_event ?hg (N := 1) ?hd (cs := #[.slice Ap parts.length cp]) (t := 32) ?hr ?_; (case hd => rfl); (case hg => rfl); (case hr => first | (go_simp; done) | (go_simp; rfl)); intro ga hgb_ wb_ hcb_ hbb_; have HS_ := A0_ (Sp.boxed HS.out hgb_ hcb_ hbb_); clear HS; have HS := HS_; clear HS_; clear hgb_ hcb_ hbb_; have ha0 := (blk_cell (Sp.blk HS.out (i := 0) rfl).1 0).trans rfl))
      | (go_at_call 59; refine (HFE.out _ HS.out.below).mono ?_; rintro e wi_ ⟨vi_, vo_, rfl, hr_, _, hb_⟩; have HS_ := A0_ (Sp.made' HS.out hb_ hr_); clear HS; have HS := HS_; clear HS_; obtain ⟨Aw, cw, rfl⟩ := Kd.R_slice hr_; clear hb_ hr_ ha0))
    go_ret2
    exact ⟨by rw [HL.out]; rfl, HS.out.below⟩
  · have HL := A0_ (show LV = (0, cd) by rw [HLV.out]; exact if_neg hc)
    have c0 : (cd == 0) = false := by rw [beq_eq_false_iff_ne]; exact hc
    have c1 : (cd != 0) = true := by rw [bne_iff_ne]; exact hc
    have c2 : (cd = 0) = False := eq_false hc
    clear HLV hc
    go_enter Try.func25, Try.ntmps25
    go_wp2_with (first
      | ((with_reducible refine gate_dst (N := 1) rfl ?_); go_loud (refine box_event ?hg (N := 1) ?hd (cs := #[.slice Ap parts.length cp]) (t := 32) ?hr ?_; (case hd => rfl); (case hg => rfl); (case hr => first | (go_simp; done) | (go_simp; rfl)); intro ga hgb_ wb_ hcb_ hbb_; have HS_ := A0_ (Sp.boxed HS.out hgb_ hcb_ hbb_); clear HS; have HS := HS_; clear HS_; clear hgb_ hcb_ hbb_; have ha0 := (blk_cell (Sp.blk HS.out (i := 0) rfl).1 0).trans rfl))
      | (go_at_call 59; refine (HFE.out _ HS.out.below).mono ?_; rintro e wi_ ⟨vi_, vo_, rfl, _, _, hb_⟩; have HS_ := A0_ (Sp.far HS.out hb_); clear HS; have HS := HS_; clear HS_; clear hb_ ha0))
    go_ret2
    exact ⟨by rw [HL.out]; rfl, HS.out.below⟩
end Go.Proofs.Ytlbckkagjekhnaa.A

/- An exit's way is no longer than the limit. No program in sight. -/
namespace Go.Proofs.Ytlbckkagjekhnaa.A
open Go.RowKit Go.Proofs.YtlbckkagjekhnaaW.PrintWords Go.Proofs.YtlbckkagjekhnaaW.PrintLast Go.Proofs.YtlbckkagjekhnaaW.PrintMore
set_option linter.unusedVariables false
theorem wayF_len (S : List Nd) : ∀ (f j : Nat), (wayF S f j).length ≤ f
  | 0, _ => Nat.le_refl _
  | f + 1, j => by
    unfold wayF
    by_cases c : (ndAt S j).2.1 < 0
    · rw [if_pos c]; exact Nat.zero_le _
    · rw [if_neg c, List.length_append, List.length_singleton]
      have := wayF_len S f (ndAt S j).2.1.toNat
      omega
theorem visit_top {o : List Cb} {k : Int} {S S' : List Nd} {m : Int} (h : visitP o k S m = some S') (hl : S.length ≤ 1200) : S'.length ≤ 1200 := by
  unfold visitP at h
  split at h
  · injection h with h; subst h; exact hl
  · split at h
    · injection h with h; subst h; exact hl
    · split at h
      · cases h
      · injection h with h; subst h; rw [List.length_append, List.length_singleton]; omega
theorem spread_top {o : List Cb} {k : Int} : ∀ (ms : List Int) {S S' : List Nd}, ms.foldlM (visitP o k) S = some S' → S.length ≤ 1200 → S'.length ≤ 1200
  | [], S, S', h, hl => by
    have : S = S' := Option.some.inj h
    subst this
    exact hl
  | m :: ms, S, S', h, hl => by
    rw [List.foldlM_cons] at h
    obtain ⟨T, h1, h2⟩ := Option.bind_eq_some_iff.1 h
    exact spread_top ms h2 (visit_top h1 hl)
theorem searchX_top (parts : List (List Cb)) (ex : List Cb → Bool) : ∀ (f : Nat) (S : List Nd) (k : Nat) {S' : List Nd} {i : Int}, S.length ≤ 1200 → searchX parts ex f S k = some (S', i) → S'.length ≤ 1200 ∧ (i < 0 ∨ i.toNat < S'.length)
  | 0, S, k, S', i, hl, h => by
    injection h with h; injection h with h1 h2
    subst h1; subst h2
    exact ⟨hl, .inl (by omega)⟩
  | f + 1, S, k, S', i, hl, h => by
    unfold searchX at h
    by_cases c : k < S.length
    · rw [if_pos c] at h
      by_cases e : ex (ndAt S k).1 = true
      · rw [if_pos e] at h
        injection h with h; injection h with h1 h2
        subst h1; subst h2
        exact ⟨hl, .inr (by omega)⟩
      · rw [if_neg e] at h
        obtain ⟨U, h1, h2⟩ := Option.bind_eq_some_iff.1 h
        exact searchX_top parts ex f U (k + 1) (spread_top _ h1 hl) h2
    · rw [if_neg c] at h
      injection h with h; injection h with h1 h2
      subst h1; subst h2
      exact ⟨hl, .inl (by omega)⟩
theorem exitR_len (parts : List (List Cb)) : (exitR parts).1.length ≤ 1200 := by
  unfold exitR
  by_cases c : asmP parts = true
  · rw [if_pos c]
    cases hx : exitX parts with
    | none => simp
    | some s =>
      obtain ⟨S, i⟩ := s
      dsimp only
      obtain ⟨h1, h2⟩ := searchX_top parts (exB parts true) 1201 _ 0 (by simp) hx
      by_cases d : i < 0
      · rw [if_pos d]; simp
      · rw [if_neg d]
        have h3 := wayF_len S (i.toNat + 1) i.toNat
        show (wayN S i.toNat).length ≤ 1200
        unfold wayN
        omega
  · rw [if_neg c]; simp
theorem exitW_len (parts : List (List Cb)) : (exitW parts).1.length ≤ 1200 := by
  have h := exitR_len parts
  rw [exit_same] at h
  by_cases c : (exitW parts).2.2 = 0
  · rw [if_pos c] at h; exact h
  · have : (exitW parts).1 = [] := by
      unfold exitW at c ⊢
      by_cases d : asmP parts = true
      · rw [if_pos d] at c ⊢
        cases hs : searchW parts (exB parts true) 1201 [(zerosC parts.length, [])] 0 with
        | none => rfl
        | some r =>
          obtain ⟨T, i⟩ := r
          rw [hs] at c
          dsimp only at c ⊢
          by_cases e : i < 0
          · rw [if_pos e]
          · rw [if_neg e] at c; exact absurd rfl c
      · rw [if_neg d]
    rw [this]
    simp
end Go.Proofs.Ytlbckkagjekhnaa.A

/- The law FnExactLevelOf, walked as one straight line. -/
namespace Go.Proofs.Ytlbckkagjekhnaa.A
open Go.RowKit Go.Proofs.YtlbckkagjekhnaaW.PrintWords Go.Proofs.YtlbckkagjekhnaaW.PrintLast Go.Proofs.YtlbckkagjekhnaaW.PrintMore
set_option linter.unusedVariables false
set_option linter.unusedSimpArgs false
def lawLv.T10 : Bool × List (List Nat × List Nat) := (true, [([], []), ([], []), ([1], [1]), ([0, 2, 2], [0, 2]), ([3], [3])])
def lawLv.B10 : List Nat := [0, 0, 2, 7, 15]
theorem lawLv.tab10 : rtab .any (opsOf Try.f5 10) = lawLv.T10 := by kernel_rfl
theorem lawLv.bits10 : waitsOk lawLv.T10.2 lawLv.B10 = true := by kernel_rfl
set_option maxHeartbeats 4000000 in
set_option maxRecDepth 100000 in
theorem lawLv_good (A0 : Option Addr) (c0 : Nat) (l : List (List Lb)) (w : World) (hr : Kd.C (Kd.slice 71 k71) w A0 l.length l) (hc : l.length ≤ c0) (KK : Nat) (s : Int) (hsz : laws_szAssembly.f KK l 1048576 = some s) (hpos : ¬ s < 0) (P : List (List Cb)) (hz : SzOk P) (hto : laws_toAssembly.f KK l = some P) (heq : laws_eqAssembly.f KK P P = some true) :
    Calls Try.prog 5 #[.agg #[.slice A0 l.length c0]] w fun e w' => e = .returned (.bool true) ∧ Below w.heap.size w w' := by
  have hu24 := Try.underlying24
  have hu32 := Try.underlying32
  have HR := A0_ hr
  have HC := A0_ hc
  have HSZ := A0_ hsz
  have HTO1 := A0_ hto
  have HTO2 := A0_ hto
  have HTO3 := A0_ hto
  have HEQ := A0_ heq
  have HZ := A0_ hz
  have hp0 : decide (s < 0) = false := decide_eq_false hpos
  have HS := A0_ (Sp.start w)
  obtain ⟨x1, x2, hx⟩ : ∃ x1 x2, levelR P = (x1, x2) := ⟨_, _, rfl⟩
  have HSP := A0_ (fun A c w1 h1 h2 => sLevel_calls A c P w1 h1 h2 hz (exitW_len P))
  have HIM := A0_ (fun A c w1 h1 => iLevel_calls A c P w1 h1 hz (exitR_len P))
  rw [hx] at HSP HIM
  clear hr hc hsz hto heq hz hx
  go_enter Try.func5, Try.ntmps5
  go_wp2_with (first
    | ((with_reducible refine gate_dst (N := 1) rfl ?_); go_loud (refine box_event ?hg (N := 1) ?hd (cs := #[.slice A0 l.length c0]) (t := 24) ?hr ?_; (case hd => rfl); (case hg => rfl); (case hr => first | (go_simp; done) | (go_simp; rfl)); intro gb hgb_ wb_ hcb_ hbb_; have HS_ := A0_ (Sp.boxed HS.out hgb_ hcb_ hbb_); clear HS; have HS := HS_; clear HS_; clear hgb_ hcb_ hbb_; have hb0 := (blk_cell (Sp.blk HS.out (i := 0) rfl).1 0).trans rfl))
    | (go_at_call 10; go_loud (refine (laws_szAssembly.calls KK A0 c0 l 1048576 s _ (Kd.C_below HR.out HS.out.below) HC.out HSZ.out).mono ?_; rintro e wc_ ⟨rfl, hb_⟩; have HS_ := A0_ (Sp.far HS.out hb_); clear HS; have HS := HS_; clear HS_; clear hb_ hb0 HSZ; have hb0 := (blk_cell (Sp.blk HS.out (i := 0) rfl).1 0).trans rfl))
    | (go_at_call 13; go_loud (refine (laws_toAssembly.calls KK A0 c0 l P _ (Kd.C_below HR.out HS.out.below) HC.out HTO1.out).mono ?_; rintro e wc_ ⟨v_, rfl, hs_, hb_⟩; have HS_ := A0_ (Sp.madeS HS.out hb_ hs_); clear HS; have HS := HS_; clear HS_; clear hb_ hs_ hb0 HTO1; obtain ⟨A1, c1, ev_⟩ := Sp.sliceS HS.out (i := 0) rfl; subst ev_))
    | (go_at_call 25; go_loud (refine (HSP.out A1 c1 _ (Sp.readsS HS.out (i := 0) rfl).2.2 (Sp.readsS HS.out (i := 0) rfl).2.1).mono ?_; rintro e wc_ ⟨rfl, hb_⟩; have HS_ := A0_ (Sp.far HS.out hb_); clear HS; have HS := HS_; clear HS_; clear hb_ HSP; have hb0 := (blk_cell (Sp.blk HS.out (i := 1) rfl).1 0).trans rfl))
    | (go_at_call 13; go_loud (refine (laws_toAssembly.calls KK A0 c0 l P _ (Kd.C_below HR.out HS.out.below) HC.out HTO2.out).mono ?_; rintro e wc_ ⟨v_, rfl, hs_, hb_⟩; have HS_ := A0_ (Sp.madeS HS.out hb_ hs_); clear HS; have HS := HS_; clear HS_; clear hb_ hs_ hb0 HTO2; obtain ⟨A2, c2, ev_⟩ := Sp.sliceS HS.out (i := 0) rfl; subst ev_))
    | (go_at_call 26; obtain ⟨gx, hg_⟩ : ∃ g_, g_ = (wc_).heap.size := ⟨_, rfl⟩; obtain ⟨wx, hw_⟩ : ∃ w_, w_ = (wc_).alloc (.cells #[.slice A2 P.length c2] 32) := ⟨_, rfl⟩; (try rw [← hw_]); (try rw [← hg_]); have HS_ := A0_ (Sp.box HS.out #[.slice A2 P.length c2] 32); rw [← hw_, ← hg_] at HS_; clear HS; have HS := HS_; clear HS_ hw_ hg_; refine (HIM.out A2 c2 _ (Sp.readsS HS.out (i := 1) rfl).2.2).mono ?_; rintro e wi_ ⟨rfl, hb_⟩; have HS_ := A0_ (Sp.far HS.out hb_); clear HS; have HS := HS_; clear HS_; clear hb_ HIM))
  have HS_ := A0_ (show Sp w ([Res.blk gx #[.slice A2 P.length c2] 32, Res.rowS kP 34 w.heap.size (.slice A2 P.length c2) P, Res.rowS kP 34 w.heap.size (.slice A1 P.length c1) P, Res.blk gb #[.slice A0 l.length c0] 24] ++ ([] : List Res)) wi_.drew from Sp.drew HS.out)
  clear HS
  have HS := HS_
  clear HS_
  refine start_ (n := 5) (S := fun w' => w'.cell? ⟨gx, 0, none⟩ = some (.slice A2 P.length c2) ∧ w'.cell? ⟨gb, 0, none⟩ = some (.slice A0 l.length c0)) (ds := []) #[false, false, false, false, false] (by kernel_rfl) rfl rfl (⟨(blk_cell (Sp.blk HS.out (i := 0) rfl).1 0).trans rfl, (blk_cell (Sp.blk HS.out (i := 3) rfl).1 0).trans rfl⟩) (fun hHeld => ?_)
  refine with_tabW lawLv.tab10 lawLv.bits10 (fun HT_ HW_ => ?_)
  generalize wi_.drew = wD at HS hHeld ⊢
  refine tk_ 0 (some 35) ?_
  refine tk_ 1 (some 36) ?_
  refine o1_ 2 (some 37) (fun K hK => ?_)
  refine goes_ Try.func13 (by kernel_rfl) rfl #[.agg #[.slice A0 l.length c0]] (by rfl) rfl rfl (by (try simp only [List.map_toArray, List.map_cons, List.map_nil]); first | done | rfl | (simp only [List.length_drop, List.length_take]; rfl)) ?_
  refine (laws_toAssembly.calls KK A0 c0 l P _ (Kd.C_below HR.out HS.out.below) HC.out HTO3.out).mono ?_
  rintro e w7 ⟨v7, rfl, hs_, hb_⟩
  refine ⟨_, rfl, ?_⟩
  have HS_ := A0_ (Sp.madeS HS.out hb_ hs_)
  clear HS
  have HS := HS_
  clear HS_
  clear hb_ hs_
  obtain ⟨A7, c7, ev_⟩ := Sp.sliceS HS.out (i := 0) rfl
  subst ev_
  refine hK.out _ _ (⟨(blk_cell (Sp.blk HS.out (i := 1) rfl).1 0).trans rfl, (blk_cell (Sp.blk HS.out (i := 4) rfl).1 0).trans rfl⟩) (fun hHeld => ?_)
  clear hK K
  refine nm_ (some 37) ?_
  refine o1_ 3 (some 38) (fun K hK => ?_)
  refine goes_ Try.func17 (by kernel_rfl) rfl #[.agg #[.slice A2 P.length c2], .agg #[.slice A7 P.length c7]] (by rfl) rfl rfl (by (try simp only [List.map_toArray, List.map_cons, List.map_nil]); first | done | rfl | (simp only [List.length_drop, List.length_take]; rfl)) ?_
  refine (laws_eqAssembly.calls KK A2 c2 P A7 c7 P true _ (Sp.readsS HS.out (i := 2) rfl).2.2 (Sp.readsS HS.out (i := 2) rfl).2.1 (Sp.readsS HS.out (i := 0) rfl).2.2 (Sp.readsS HS.out (i := 0) rfl).2.1 HEQ.out).mono ?_
  rintro e w8 ⟨rfl, hb_⟩
  refine ⟨_, rfl, ?_⟩
  have HS_ := A0_ (Sp.far HS.out hb_)
  clear HS
  have HS := HS_
  clear HS_
  clear hb_
  refine hK.out _ _ (⟨(blk_cell (Sp.blk HS.out (i := 1) rfl).1 0).trans rfl, (blk_cell (Sp.blk HS.out (i := 4) rfl).1 0).trans rfl⟩) (fun hHeld => ?_)
  clear hK K
  refine nm_ (some 38) ?_
  refine on_ 4 (some 39) ?_
  refine dn_ ?_
  try go_wp2
  go_ret
  exact ⟨rfl, HS.out.below⟩
set_option maxHeartbeats 1000000 in
set_option maxRecDepth 100000 in
theorem lawLv_bad (A0 : Option Addr) (c0 : Nat) (l : List (List Lb)) (w : World) (hr : Kd.C (Kd.slice 71 k71) w A0 l.length l) (hc : l.length ≤ c0) (KK : Nat) (hsz : laws_szAssembly.f KK l 1048576 = some (-1)) :
    Calls Try.prog 5 #[.agg #[.slice A0 l.length c0]] w fun e w' => e = .returned (.bool true) ∧ Below w.heap.size w w' := by
  have hu24 := Try.underlying24
  have HR := A0_ hr
  have HC := A0_ hc
  have HSZ := A0_ hsz
  have HS := A0_ (Sp.start w)
  clear hr hc hsz
  go_enter Try.func5, Try.ntmps5
  go_wp2_with (first
    | ((with_reducible refine gate_dst (N := 1) rfl ?_); go_loud (refine box_event ?hg (N := 1) ?hd (cs := #[.slice A0 l.length c0]) (t := 24) ?hr ?_; (case hd => rfl); (case hg => rfl); (case hr => first | (go_simp; done) | (go_simp; rfl)); intro gb hgb_ wb_ hcb_ hbb_; have HS_ := A0_ (Sp.boxed HS.out hgb_ hcb_ hbb_); clear HS; have HS := HS_; clear HS_; clear hgb_ hcb_ hbb_; have hb0 := (blk_cell (Sp.blk HS.out (i := 0) rfl).1 0).trans rfl))
    | (go_at_call 10; go_loud (refine (laws_szAssembly.calls KK A0 c0 l 1048576 (-1) _ (Kd.C_below HR.out HS.out.below) HC.out HSZ.out).mono ?_; rintro e wc_ ⟨rfl, hb_⟩; have HS_ := A0_ (Sp.far HS.out hb_); clear HS; have HS := HS_; clear HS_; clear hb_ hb0 HSZ)))
  go_ret
  exact ⟨rfl, HS.out.below⟩
open Classical in
/-- What the law answers, where its input is of a size that a machine has. -/
noncomputable def laws_FnExactLevelOf.f (k : Nat) (l : List (List Lb)) : Option Bool := if l.length ≤ maxLen ∧ ∀ r ∈ l, r.length ≤ maxLen then some true else none
theorem laws_FnExactLevelOf.calls (k : Nat) (A0_0 : Option Addr) (c0_0 : Nat) (l0_0 : List (List Lb)) (r : Bool) (w : World) (hr0_0 : Kd.C (Kd.slice 71 k71) w A0_0 l0_0.length l0_0) (hc0_0 : l0_0.length ≤ c0_0) (h : laws_FnExactLevelOf.f k l0_0 = some r) :
    Calls Try.prog 5 #[.agg #[.slice A0_0 l0_0.length c0_0]] w fun e w' => e = .returned (.bool r) ∧ Below w.heap.size w w' := by
  unfold laws_FnExactLevelOf.f at h
  split at h
  case isFalse => cases h
  rename_i hok
  obtain rfl := Option.some.inj h
  obtain ⟨K1, h1⟩ := szAssembly_ev l0_0 1048576 (by omega) hok.1 hok.2
  by_cases c : szL l0_0 1048576 < 0
  · rw [if_pos c] at h1
    exact lawLv_bad A0_0 c0_0 l0_0 w hr0_0 hc0_0 K1 (h1 K1 (Nat.le_refl _))
  · rw [if_neg c] at h1
    obtain ⟨hsz, hz⟩ := szL_eq l0_0 1048576 (by omega) c
    obtain ⟨K2, h2⟩ := toAssembly_ev l0_0 hz
    obtain ⟨K3, h3⟩ := eqAssembly_ev (toP l0_0) (toP_ok hz)
    exact lawLv_good A0_0 c0_0 l0_0 w hr0_0 hc0_0 (K1 + K2 + K3) _ (h1 _ (by omega)) c (toP l0_0) (toP_ok hz) (h2 _ (by omega)) (h3 _ (by omega))
end Go.Proofs.Ytlbckkagjekhnaa.A

/- The plain statement of the law FnExactLevelOf, over numbers and lists alone, and how its arguments are opened. -/
namespace Go.Proofs.Ytlbckkagjekhnaa.A
open Go.RowKit Go.Proofs.YtlbckkagjekhnaaW.PrintWords Go.Proofs.YtlbckkagjekhnaaW.PrintLast Go.Proofs.YtlbckkagjekhnaaW.PrintMore
def ok71 (x : S71) : Prop := (Go.Proofs.Ytlbckkagjekhnaa.Opn.okTwo (Go.Proofs.Ytlbckkagjekhnaa.Opn.okInt .i64) (Go.Proofs.Ytlbckkagjekhnaa.Opn.okTwo (Go.Proofs.Ytlbckkagjekhnaa.Opn.okInt .i64) (Go.Proofs.Ytlbckkagjekhnaa.Opn.okInt .i64))) (x.f0, x.f1, x.f2)
def ok24 (x : S24) : Prop := (Go.Proofs.Ytlbckkagjekhnaa.Opn.okAll (Go.Proofs.Ytlbckkagjekhnaa.Opn.okAll ok71)) x.f0
theorem op2 : Go.Proofs.Ytlbckkagjekhnaa.Opn.Op Try.prog 2 (Kd.int .i64) (Go.Proofs.Ytlbckkagjekhnaa.Opn.okInt .i64) := Go.Proofs.Ytlbckkagjekhnaa.Opn.Op.int Try.underlying2
theorem op71 : Go.Proofs.Ytlbckkagjekhnaa.Opn.Op Try.prog 71 k71 ok71 := Go.Proofs.Ytlbckkagjekhnaa.Opn.Op.iso (Go.Proofs.Ytlbckkagjekhnaa.Opn.Op.struct Try.underlying71 (by kernel_rfl) (Go.Proofs.Ytlbckkagjekhnaa.Opn.OpF.cons rfl (by kernel_rfl) op2 (Go.Proofs.Ytlbckkagjekhnaa.Opn.OpF.cons rfl (by kernel_rfl) op2 (Go.Proofs.Ytlbckkagjekhnaa.Opn.OpF.one rfl (by kernel_rfl) op2)))) (fun x : S71 => (x.f0, x.f1, x.f2)) (fun p => ⟨p.1, p.2.1, p.2.2⟩) (fun _ => rfl)
theorem op25 : Go.Proofs.Ytlbckkagjekhnaa.Opn.Op Try.prog 25 (Kd.slice 71 k71) (Go.Proofs.Ytlbckkagjekhnaa.Opn.okAll ok71) := Go.Proofs.Ytlbckkagjekhnaa.Opn.Op.slice Try.underlying25 (by kernel_rfl) op71
theorem op22 : Go.Proofs.Ytlbckkagjekhnaa.Opn.Op Try.prog 22 (Kd.slice 25 (Kd.slice 71 k71)) (Go.Proofs.Ytlbckkagjekhnaa.Opn.okAll (Go.Proofs.Ytlbckkagjekhnaa.Opn.okAll ok71)) := Go.Proofs.Ytlbckkagjekhnaa.Opn.Op.slice Try.underlying22 (by kernel_rfl) op25
theorem op24 : Go.Proofs.Ytlbckkagjekhnaa.Opn.Op Try.prog 24 k24 ok24 := Go.Proofs.Ytlbckkagjekhnaa.Opn.Op.iso (Go.Proofs.Ytlbckkagjekhnaa.Opn.Op.struct Try.underlying24 (by kernel_rfl) (Go.Proofs.Ytlbckkagjekhnaa.Opn.OpF.one rfl (by kernel_rfl) op22)) (fun x : S24 => x.f0) (fun p => ⟨p⟩) (fun _ => rfl)
def FnExactLevelOf.Pure : Prop := ∀ (a0 : S24), ok24 a0 → ∃ k, laws_FnExactLevelOf.f k (a0.f0) = some true
end Go.Proofs.Ytlbckkagjekhnaa.A

/- LevelOf: the law's contract answers true. -/
namespace Go.Proofs.Ytlbckkagjekhnaa.Pure
open Go.RowKit Go.Proofs.YtlbckkagjekhnaaW.PrintWords Go.Proofs.YtlbckkagjekhnaaW.PrintLast Go.Proofs.YtlbckkagjekhnaaW.PrintMore Go.Proofs.Ytlbckkagjekhnaa.A
theorem FnExactLevelOf : Go.Proofs.Ytlbckkagjekhnaa.A.FnExactLevelOf.Pure := by
  intro a0 hok
  refine ⟨0, ?_⟩
  unfold laws_FnExactLevelOf.f
  exact if_pos ⟨hok.1, fun r hr => (hok.2 r hr).1⟩
end Go.Proofs.Ytlbckkagjekhnaa.Pure

