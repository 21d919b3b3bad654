/- What the row of the law FnLayouts stands on, part 2. -/
import Derived.Test.YtgcagmmghckbbaaMFnLayouts1
namespace Go.Proofs.Ytgcagmmghckbbaa.A
open Go.RowKit Go.Proofs.YtgcagmmghckbbaaW.PrintWords Go.Proofs.YtgcagmmghckbbaaW.PrintLast Go.Proofs.YtgcagmmghckbbaaW.PrintMore
attribute [local go_sem] max2_int min2_int max_two min_two max_three min_three max_four min_four   -- for this text's walks alone
set_option linter.unusedVariables false
set_option linter.unusedSimpArgs false
def spec_l30Turn.f (a0_0 : Int) (a0_1 : Int) (a0_2 : Int) (a0_3 : Int) (a1 : Int) : Option (Int × Int × Int × Int) := (spec_l30Codes.f a0_0 a0_1 a0_2 a0_3).bind fun t113 => (if 0 ≤ (Int.tmod (wrap64 (4 - a1)) 4) then (if (Int.tmod (wrap64 (4 - a1)) 4) < (t113.length : Int) then (if 0 ≤ (Int.tmod (wrap64 (5 - a1)) 4) then (if (Int.tmod (wrap64 (5 - a1)) 4) < (t113.length : Int) then (if 0 ≤ (Int.tmod (wrap64 (6 - a1)) 4) then (if (Int.tmod (wrap64 (6 - a1)) 4) < (t113.length : Int) then (if 0 ≤ (Int.tmod (wrap64 (7 - a1)) 4) then (if (Int.tmod (wrap64 (7 - a1)) 4) < (t113.length : Int) then (some (rd t113 (Int.tmod (wrap64 (4 - a1)) 4), rd t113 (Int.tmod (wrap64 (5 - a1)) 4), rd t113 (Int.tmod (wrap64 (6 - a1)) 4), rd t113 (Int.tmod (wrap64 (7 - a1)) 4))) else (none)) else (none)) else (none)) else (none)) else (none)) else (none)) else (none)) else (none))
def spec_l30Turn.T2 : Bool × List (List Nat × List Nat) := (true, [([], []), ([], []), ([1], [1]), ([2], [2]), ([0, 3], [0, 3]), ([4], [4]), ([], []), ([], []), ([7], [7]), ([8], [8]), ([6, 9], [6, 9]), ([10], [10]), ([], []), ([], []), ([13], [13]), ([14], [14]), ([12, 15], [12, 15]), ([16], [16]), ([], []), ([], []), ([19], [19]), ([20], [20]), ([18, 21], [18, 21]), ([22], [22]), ([5, 11, 17, 23], [5, 11, 17, 23]), ([24, 0, 1, 2, 3, 4, 5, 6, 7, 8, 9, 10, 11, 12, 13, 14, 15, 16, 17, 18, 19, 20, 21, 22, 23, 24], [24])])
def spec_l30Turn.B2 : List Nat := [0, 0, 2, 6, 15, 31, 0, 0, 128, 384, 960, 1984, 0, 0, 8192, 24576, 61440, 126976, 0, 0, 524288, 1572864, 3932160, 8126464, 16777215, 33554431]
theorem spec_l30Turn.tab2 : rtab .any (opsOf Try.f51 2) = spec_l30Turn.T2 := by kernel_rfl
theorem spec_l30Turn.bits2 : waitsOk spec_l30Turn.T2.2 spec_l30Turn.B2 = true := by kernel_rfl
set_option maxHeartbeats 8000000 in
set_option maxRecDepth 100000 in
theorem spec_l30Turn.calls (a0_0 : Int) (a0_1 : Int) (a0_2 : Int) (a0_3 : Int) (a1 : Int) (r1 : Int) (r2 : Int) (r3 : Int) (r4 : Int) (w : World) (h : spec_l30Turn.f a0_0 a0_1 a0_2 a0_3 a1 = some (r1, r2, r3, r4)) :
    Calls Try.prog 51 #[.agg #[.int .i64 a0_0, .int .i64 a0_1, .int .i64 a0_2, .int .i64 a0_3], .int .i64 a1] w fun e w' => e = .returned (.agg #[.int .i64 r1, .int .i64 r2, .int .i64 r3, .int .i64 r4]) ∧ Below w.heap.size w w' := by
 (have hu24 := Try.underlying24); (have HB := A0_ (Below.refl w.heap.size w))
 have H : ((spec_l30Codes.f a0_0 a0_1 a0_2 a0_3).bind fun t113 => (if 0 ≤ (Int.tmod (wrap64 (4 - a1)) 4) then (if (Int.tmod (wrap64 (4 - a1)) 4) < (t113.length : Int) then (if 0 ≤ (Int.tmod (wrap64 (5 - a1)) 4) then (if (Int.tmod (wrap64 (5 - a1)) 4) < (t113.length : Int) then (if 0 ≤ (Int.tmod (wrap64 (6 - a1)) 4) then (if (Int.tmod (wrap64 (6 - a1)) 4) < (t113.length : Int) then (if 0 ≤ (Int.tmod (wrap64 (7 - a1)) 4) then (if (Int.tmod (wrap64 (7 - a1)) 4) < (t113.length : Int) then (some (rd t113 (Int.tmod (wrap64 (4 - a1)) 4), rd t113 (Int.tmod (wrap64 (5 - a1)) 4), rd t113 (Int.tmod (wrap64 (6 - a1)) 4), rd t113 (Int.tmod (wrap64 (7 - a1)) 4))) else (none)) else (none)) else (none)) else (none)) else (none)) else (none)) else (none)) else (none))) = some (r1, r2, r3, r4) := h
 clear h; (replace H := Option.bind_eq_some_iff.mp H); (obtain ⟨t113, A30, H⟩ := H); (replace H : (if 0 ≤ (Int.tmod (wrap64 (4 - a1)) 4) then (if (Int.tmod (wrap64 (4 - a1)) 4) < (t113.length : Int) then (if 0 ≤ (Int.tmod (wrap64 (5 - a1)) 4) then (if (Int.tmod (wrap64 (5 - a1)) 4) < (t113.length : Int) then (if 0 ≤ (Int.tmod (wrap64 (6 - a1)) 4) then (if (Int.tmod (wrap64 (6 - a1)) 4) < (t113.length : Int) then (if 0 ≤ (Int.tmod (wrap64 (7 - a1)) 4) then (if (Int.tmod (wrap64 (7 - a1)) 4) < (t113.length : Int) then (some (rd t113 (Int.tmod (wrap64 (4 - a1)) 4), rd t113 (Int.tmod (wrap64 (5 - a1)) 4), rd t113 (Int.tmod (wrap64 (6 - a1)) 4), rd t113 (Int.tmod (wrap64 (7 - a1)) 4))) else (none)) else (none)) else (none)) else (none)) else (none)) else (none)) else (none)) else (none)) = some (r1, r2, r3, r4) := H); (have A3 := A0_ A30); clear A30; (obtain ⟨ji4, hji4⟩ : ∃ j_ : Int, (Int.tmod (wrap64 (4 - a1)) 4) = j_ := ⟨_, rfl⟩); (replace H : (if 0 ≤ (ji4) then (if (ji4) < (t113.length : Int) then (if 0 ≤ (Int.tmod (wrap64 (5 - a1)) 4) then (if (Int.tmod (wrap64 (5 - a1)) 4) < (t113.length : Int) then (if 0 ≤ (Int.tmod (wrap64 (6 - a1)) 4) then (if (Int.tmod (wrap64 (6 - a1)) 4) < (t113.length : Int) then (if 0 ≤ (Int.tmod (wrap64 (7 - a1)) 4) then (if (Int.tmod (wrap64 (7 - a1)) 4) < (t113.length : Int) then (some (rd t113 (ji4), rd t113 (Int.tmod (wrap64 (5 - a1)) 4), rd t113 (Int.tmod (wrap64 (6 - a1)) 4), rd t113 (Int.tmod (wrap64 (7 - a1)) 4))) else (none)) else (none)) else (none)) else (none)) else (none)) else (none)) else (none)) else (none)) = some (r1, r2, r3, r4) := by first | (rw [hji4] at H; exact H) | (simp only [hji4] at H ⊢; exact H)); ((try rw [hji4] at A3)); (by_cases c5 : 0 ≤ (ji4))
 ·(rw [if_pos c5] at H); (have c5b0 : decide (0 ≤ (ji4)) = true := decide_eq_true c5); clear c5; (by_cases c6 : (ji4) < (t113.length : Int))
  ·(rw [if_pos c6] at H); (have c6b0 : decide ((ji4) < (t113.length : Int)) = true := decide_eq_true c6); clear c6; (obtain ⟨ji7, hji7⟩ : ∃ j_ : Int, (Int.tmod (wrap64 (5 - a1)) 4) = j_ := ⟨_, rfl⟩); (replace H : (if 0 ≤ (ji7) then (if (ji7) < (t113.length : Int) then (if 0 ≤ (Int.tmod (wrap64 (6 - a1)) 4) then (if (Int.tmod (wrap64 (6 - a1)) 4) < (t113.length : Int) then (if 0 ≤ (Int.tmod (wrap64 (7 - a1)) 4) then (if (Int.tmod (wrap64 (7 - a1)) 4) < (t113.length : Int) then (some (rd t113 (ji4), rd t113 (ji7), rd t113 (Int.tmod (wrap64 (6 - a1)) 4), rd t113 (Int.tmod (wrap64 (7 - a1)) 4))) else (none)) else (none)) else (none)) else (none)) else (none)) else (none)) = some (r1, r2, r3, r4) := by first | (rw [hji7] at H; exact H) | (simp only [hji7] at H ⊢; exact H)); ((try rw [hji7] at A3)); (by_cases c8 : 0 ≤ (ji7))
   ·(rw [if_pos c8] at H); (have c8b0 : decide (0 ≤ (ji7)) = true := decide_eq_true c8); clear c8; (by_cases c9 : (ji7) < (t113.length : Int))
    ·(rw [if_pos c9] at H); (have c9b0 : decide ((ji7) < (t113.length : Int)) = true := decide_eq_true c9); clear c9; (obtain ⟨ji10, hji10⟩ : ∃ j_ : Int, (Int.tmod (wrap64 (6 - a1)) 4) = j_ := ⟨_, rfl⟩); (replace H : (if 0 ≤ (ji10) then (if (ji10) < (t113.length : Int) then (if 0 ≤ (Int.tmod (wrap64 (7 - a1)) 4) then (if (Int.tmod (wrap64 (7 - a1)) 4) < (t113.length : Int) then (some (rd t113 (ji4), rd t113 (ji7), rd t113 (ji10), rd t113 (Int.tmod (wrap64 (7 - a1)) 4))) else (none)) else (none)) else (none)) else (none)) = some (r1, r2, r3, r4) := by first | (rw [hji10] at H; exact H) | (simp only [hji10] at H ⊢; exact H)); ((try rw [hji10] at A3)); (by_cases c11 : 0 ≤ (ji10))
     ·(rw [if_pos c11] at H); (have c11b0 : decide (0 ≤ (ji10)) = true := decide_eq_true c11); clear c11; (by_cases c12 : (ji10) < (t113.length : Int))
      ·(rw [if_pos c12] at H); (have c12b0 : decide ((ji10) < (t113.length : Int)) = true := decide_eq_true c12); clear c12; (obtain ⟨ji13, hji13⟩ : ∃ j_ : Int, (Int.tmod (wrap64 (7 - a1)) 4) = j_ := ⟨_, rfl⟩); (replace H : (if 0 ≤ (ji13) then (if (ji13) < (t113.length : Int) then (some (rd t113 (ji4), rd t113 (ji7), rd t113 (ji10), rd t113 (ji13))) else (none)) else (none)) = some (r1, r2, r3, r4) := by first | (rw [hji13] at H; exact H) | (simp only [hji13] at H ⊢; exact H)); ((try rw [hji13] at A3)); (by_cases c14 : 0 ≤ (ji13))
       ·(rw [if_pos c14] at H); (have c14b0 : decide (0 ≤ (ji13)) = true := decide_eq_true c14); clear c14; (by_cases c15 : (ji13) < (t113.length : Int))
        ·(rw [if_pos c15] at H); (have c15b0 : decide ((ji13) < (t113.length : Int)) = true := decide_eq_true c15); clear c15; (simp only [Option.some.injEq, Prod.mk.injEq] at H); (obtain ⟨rfl, rfl, rfl, rfl⟩ := H); (go_enter Try.func51, Try.ntmps51); (try go_wp2_with (first | ((with_reducible refine gate_dst (N := 2) rfl ?_); refine box_event ?hg (N := 2) ?hd (cs := #[.int .i64 a0_0, .int .i64 a0_1, .int .i64 a0_2, .int .i64 a0_3]) (t := 24) ?hr ?_; (case hd => rfl); (case hg => rfl); (case hr => first | (go_simp; done) | (go_simp; rfl)); intro gb111 hg w16 hbox hb; have n0_ := A0_ (below_step (by repeat (first | (with_reducible first | exact HB.out | apply ba_ | apply bn_ | apply bd_) | exact HB.out)) hb); have n1_ := A0_ (hbox); have n2_ := A0_ ((by rw [hg]; exact (below_size (by repeat (first | (with_reducible first | exact HB.out | apply ba_ | apply bn_ | apply bd_) | exact HB.out))) : w.heap.size ≤ gb111)); have n3_ := A0_ ((by rw [hg]; exact (below_size (by repeat (first | (with_reducible first | exact HB.out | apply ba_ | apply bn_ | apply bd_) | exact HB.out))) : w.heap.size ≤ gb111)); clear HB; have HB := n0_; have BK111 := n1_; have GW111 := n2_; have GE111 := n3_; clear n0_ n1_ n2_ n3_; clear hb hbox hg) | ((with_reducible refine gate_dst (N := 4) rfl ?_); refine box_event ?hg (N := 4) ?hd (cs := #[.int .i64 0, .int .i64 0, .int .i64 0, .int .i64 0]) (t := 24) ?hr ?_; (case hd => rfl); (case hg => rfl); (case hr => first | (go_simp; done) | (go_simp; rfl)); intro gb112 hg w17 hbox hb; have n0_ := A0_ (blk_below (g := gb111) (o := .cells #[.int .i64 a0_0, .int .i64 a0_1, .int .i64 a0_2, .int .i64 a0_3] 24 (0, 0)) (by (with_reducible repeat (first | apply gn_ | apply gd_ | apply ga_)); exact BK111.out) hb); have n1_ := A0_ (below_step (by repeat (first | (with_reducible first | exact HB.out | apply ba_ | apply bn_ | apply bd_ | refine below_set ?_ GE111.out) | exact HB.out)) hb); have n2_ := A0_ (hbox); have n3_ := A0_ ((by rw [hg]; exact (below_size (by repeat (first | (with_reducible first | exact HB.out | apply ba_ | apply bn_ | apply bd_ | refine below_set ?_ GE111.out) | exact HB.out))) : w.heap.size ≤ gb112)); have n4_ := A0_ ((by rw [hg]; exact (below_size (by repeat (first | (with_reducible first | exact HB.out | apply ba_ | apply bn_ | apply bd_ | refine below_set ?_ GE111.out) | exact HB.out))) : w.heap.size ≤ gb112)); have n5_ := A0_ ((by rw [hg]; exact Nat.ne_of_lt (blk_lt (g := gb111) (o := .cells #[.int .i64 a0_0, .int .i64 a0_1, .int .i64 a0_2, .int .i64 a0_3] 24 (0, 0)) (by (with_reducible repeat (first | apply gn_ | apply gd_ | apply ga_)); exact BK111.out)) : gb111 ≠ gb112)); have n6_ := A0_ ((by rw [hg]; exact Nat.ne_of_gt (blk_lt (g := gb111) (o := .cells #[.int .i64 a0_0, .int .i64 a0_1, .int .i64 a0_2, .int .i64 a0_3] 24 (0, 0)) (by (with_reducible repeat (first | apply gn_ | apply gd_ | apply ga_)); exact BK111.out)) : gb112 ≠ gb111)); clear BK111; clear HB; have BK111 := n0_; have HB := n1_; have BK112 := n2_; have GW112 := n3_; have GE112 := n4_; have NB111_112 := n5_; have NB112_111 := n6_; clear n0_ n1_ n2_ n3_ n4_ n5_ n6_; clear hb hbox hg; have hnb18 := NB111_112.out; have hnc18 := NB112_111.out; have hcz19_0 : w17.cell? ⟨gb111, 0, none⟩ = some (.int .i64 a0_0) := (blk_cell BK111.out 0).trans rfl; have hcz19_1 : w17.cell? ⟨gb111, 1, none⟩ = some (.int .i64 a0_1) := (blk_cell BK111.out 1).trans rfl; have hcz19_2 : w17.cell? ⟨gb111, 2, none⟩ = some (.int .i64 a0_2) := (blk_cell BK111.out 2).trans rfl; have hcz19_3 : w17.cell? ⟨gb111, 3, none⟩ = some (.int .i64 a0_3) := (blk_cell BK111.out 3).trans rfl; have hfz19_0 := blk_frozen BK111.out 0; have hfz19_1 := blk_frozen BK111.out 1; have hfz19_2 := blk_frozen BK111.out 2; have hfz19_3 := blk_frozen BK111.out 3) | ((with_reducible refine gate_callee (f := 57) rfl ?_); refine goesL_ (some 7) rfl rfl Try.func57 (by kernel_rfl) rfl #[.agg #[.int .i64 a0_0, .int .i64 a0_1, .int .i64 a0_2, .int .i64 a0_3]] rfl (by (try simp only [List.map_toArray, List.map_cons, List.map_nil]); first | done | rfl | (simp only [List.length_drop, List.length_take]; rfl)) ?_; (with_reducible refine (spec_l30Codes.calls a0_0 a0_1 a0_2 a0_3 t113 _ A3.out).mono ?_); rintro e w20 ⟨v114, rfl, ho0, hb⟩; refine ⟨_, rfl, ?_⟩; have n0_ := A0_ (Kd.R_lower ho0 (below_size (by repeat (first | (with_reducible first | exact HB.out | apply ba_ | apply bn_ | apply bd_ | refine below_set ?_ GE111.out | refine below_set ?_ GE112.out) | exact HB.out)))); have n1_ := A0_ (blk_below (g := gb111) (o := .cells #[.int .i64 a0_0, .int .i64 a0_1, .int .i64 a0_2, .int .i64 a0_3] 24 (0, 0)) (by (with_reducible repeat (first | apply gn_ | apply gd_ | apply ga_)); exact BK111.out) hb); have n2_ := A0_ (blk_below (g := gb112) (o := .cells #[.int .i64 0, .int .i64 0, .int .i64 0, .int .i64 0] 24 (0, 0)) (by (with_reducible repeat (first | apply gn_ | apply gd_ | apply ga_)); exact BK112.out) hb); have n3_ := A0_ (below_step (by repeat (first | (with_reducible first | exact HB.out | apply ba_ | apply bn_ | apply bd_ | refine below_set ?_ GE111.out | refine below_set ?_ GE112.out) | exact HB.out)) hb); clear BK111; clear BK112; clear HB; have HO115 := n0_; have BK111 := n1_; have BK112 := n2_; have HB := n3_; clear n0_ n1_ n2_ n3_; (try clear hb); (try clear hb2); (try clear hk); (try clear hi); (try clear ho0)))); (have n0_ := A0_ (Kd.R_drew HO115.out)); (have n1_ := A0_ (blk_drew BK111.out)); (have n2_ := A0_ (blk_drew BK112.out)); (have n3_ := A0_ (below_drew1 HB.out)); clear HO115; clear BK111; clear BK112; clear HB; (have HO115 := n0_); (have BK111 := n1_); (have BK112 := n2_); (have HB := n3_); clear n0_ n1_ n2_ n3_; (obtain ⟨Ao22, co22, eo22⟩ := Kd.R_slice HO115.out); ((first | subst eo22 | (injection eo22 with f1_ f2_ f3_; have f4_ := f1_.symm; have f5_ := f3_.symm; clear f1_ f2_ f3_; subst f4_; subst f5_))); (have p116 : 0 ≤ ((ji4) : Int) := of_decide_eq_true (by first | (with_reducible assumption) | assumption)); (have q116 : (ji4) < (t113.length : Int) := of_decide_eq_true (by first | (with_reducible assumption) | assumption)); (obtain ⟨ad116, e116, hx116_0⟩ := Kd.at_int (Kd.R_reads' HO115.out).2.2 (ji4) p116 q116); (cases e116); (replace p116 := eq_true p116); (replace q116 := eq_true q116); (have p117 : 0 ≤ ((ji7) : Int) := of_decide_eq_true (by first | (with_reducible assumption) | assumption)); (have q117 : (ji7) < (t113.length : Int) := of_decide_eq_true (by first | (with_reducible assumption) | assumption)); (obtain ⟨ad117, e117, hx117_0⟩ := Kd.at_int (Kd.R_reads' HO115.out).2.2 (ji7) p117 q117); (obtain rfl : ad116 = ad117 := (by injection e117)); (replace p117 := eq_true p117); (replace q117 := eq_true q117); (have p118 : 0 ≤ ((ji10) : Int) := of_decide_eq_true (by first | (with_reducible assumption) | assumption)); (have q118 : (ji10) < (t113.length : Int) := of_decide_eq_true (by first | (with_reducible assumption) | assumption)); (obtain ⟨ad118, e118, hx118_0⟩ := Kd.at_int (Kd.R_reads' HO115.out).2.2 (ji10) p118 q118); (obtain rfl : ad116 = ad118 := (by injection e118)); (replace p118 := eq_true p118); (replace q118 := eq_true q118); (have p119 : 0 ≤ ((ji13) : Int) := of_decide_eq_true (by first | (with_reducible assumption) | assumption)); (have q119 : (ji13) < (t113.length : Int) := of_decide_eq_true (by first | (with_reducible assumption) | assumption)); (obtain ⟨ad119, e119, hx119_0⟩ := Kd.at_int (Kd.R_reads' HO115.out).2.2 (ji13) p119 q119); (obtain rfl : ad116 = ad119 := (by injection e119)); (replace p119 := eq_true p119); (replace q119 := eq_true q119)
         refine start_ (n := 26) (S := fun w' => w'.cell? (ad116.add ((ji4)).toNat) = some (.int .i64 (rd t113 (ji4))) ∧ w'.cell? (ad116.add ((ji7)).toNat) = some (.int .i64 (rd t113 (ji7))) ∧ w'.cell? (ad116.add ((ji10)).toNat) = some (.int .i64 (rd t113 (ji10))) ∧ w'.cell? (ad116.add ((ji13)).toNat) = some (.int .i64 (rd t113 (ji13)))) (ds := []) #[ff,ff,ff,ff,ff,ff,ff,ff,ff,ff,ff,ff,ff,ff,ff,ff,ff,ff,ff,ff,ff,ff,ff,ff,ff,ff] (by kernel_rfl) rfl rfl ⟨hx116_0, hx117_0, hx118_0, hx119_0⟩ (fun hHeld => ?_); refine with_tabW spec_l30Turn.tab2 spec_l30Turn.bits2 (fun HT_ HW_ => ?_)
         (generalize w20.drew = w21 at HO115 BK111 BK112 HB hx116_0 hx117_0 hx118_0 hx119_0 hHeld ⊢)
         refine pure_ (i := 0) (N := some 8) (v := ?_) (a' := ?_) #[tt,ff,ff,ff,ff,ff,ff,ff,ff,ff,ff,ff,ff,ff,ff,ff,ff,ff,ff,ff,ff,ff,ff,ff,ff,ff] rfl rfl (any_of HT_.out (by kernel_rfl)) (fun _ _ _ h => h) (Or.inl ⟨by rfl, ?_⟩) ?_ ?_
         rotate_left
         ·intro w'; go_simp; with_reducible rfl
         rotate_left
         ·(simp only [Act.put, sia_, sz_, ss_, i64_w, i32_w]); rfl
         refine pure_ (i := 1) (N := some 9) (v := ?_) (a' := ?_) #[tt,tt,ff,ff,ff,ff,ff,ff,ff,ff,ff,ff,ff,ff,ff,ff,ff,ff,ff,ff,ff,ff,ff,ff,ff,ff] rfl rfl (any_of HT_.out (by kernel_rfl)) (fun _ _ _ h => h) (Or.inl ⟨by rfl, ?_⟩) ?_ ?_
         rotate_left
         ·intro w'; go_simp; with_reducible rfl
         rotate_left
         ·(simp only [Act.put, sia_, sz_, ss_, i64_w, i32_w]); rfl
         refine pure_ (i := 2) (N := some 10) (v := ?_) (a' := ?_) #[tt,tt,tt,ff,ff,ff,ff,ff,ff,ff,ff,ff,ff,ff,ff,ff,ff,ff,ff,ff,ff,ff,ff,ff,ff,ff] rfl rfl (any_of HT_.out (by kernel_rfl)) (fun _ _ _ h => h) (Or.inl ⟨by rfl, ?_⟩) ?_ ?_
         rotate_left
         ·intro w'; go_simp; with_reducible rfl
         rotate_left
         ·(simp only [Act.put, sia_, sz_, ss_, i64_w, i32_w]); rfl
         refine pure_ (i := 3) (N := some 11) (v := ?_) (a' := ?_) #[tt,tt,tt,tt,ff,ff,ff,ff,ff,ff,ff,ff,ff,ff,ff,ff,ff,ff,ff,ff,ff,ff,ff,ff,ff,ff] rfl rfl (any_of HT_.out (by kernel_rfl)) (fun _ _ _ h => h) (Or.inl ⟨by rfl, ?_⟩) ?_ ?_
         rotate_left
         ·intro w'; go_simp; with_reducible rfl
         rotate_left
         ·(simp only [Act.put, sia_, sz_, ss_, i64_w, i32_w]); rfl
         refine pure_ (i := 4) (N := some 12) (v := ?_) (a' := ?_) #[tt,tt,tt,tt,tt,ff,ff,ff,ff,ff,ff,ff,ff,ff,ff,ff,ff,ff,ff,ff,ff,ff,ff,ff,ff,ff] rfl rfl (any_of HT_.out (by kernel_rfl)) (fun _ _ _ h => h) (Or.inl ⟨by rfl, ?_⟩) ?_ ?_
         rotate_left
         ·intro w'; go_simp; with_reducible rfl
         rotate_left
         ·(simp only [Act.put, sia_, sz_, ss_, i64_w, i32_w]); rfl
         refine pure_ (i := 6) (N := some 14) (v := ?_) (a' := ?_) #[tt,tt,tt,tt,tt,ff,tt,ff,ff,ff,ff,ff,ff,ff,ff,ff,ff,ff,ff,ff,ff,ff,ff,ff,ff,ff] rfl rfl (any_of HT_.out (by kernel_rfl)) (fun _ _ _ h => h) (Or.inl ⟨by rfl, ?_⟩) ?_ ?_
         rotate_left
         ·intro w'; go_simp; with_reducible rfl
         rotate_left
         ·(simp only [Act.put, sia_, sz_, ss_, i64_w, i32_w]); rfl
         refine pure_ (i := 7) (N := some 15) (v := ?_) (a' := ?_) #[tt,tt,tt,tt,tt,ff,tt,tt,ff,ff,ff,ff,ff,ff,ff,ff,ff,ff,ff,ff,ff,ff,ff,ff,ff,ff] rfl rfl (any_of HT_.out (by kernel_rfl)) (fun _ _ _ h => h) (Or.inl ⟨by rfl, ?_⟩) ?_ ?_
         rotate_left
         ·intro w'; go_simp; with_reducible rfl
         rotate_left
         ·(simp only [Act.put, sia_, sz_, ss_, i64_w, i32_w]); rfl
         refine pure_ (i := 8) (N := some 16) (v := ?_) (a' := ?_) #[tt,tt,tt,tt,tt,ff,tt,tt,tt,ff,ff,ff,ff,ff,ff,ff,ff,ff,ff,ff,ff,ff,ff,ff,ff,ff] rfl rfl (any_of HT_.out (by kernel_rfl)) (fun _ _ _ h => h) (Or.inl ⟨by rfl, ?_⟩) ?_ ?_
         rotate_left
         ·intro w'; go_simp; with_reducible rfl
         rotate_left
         ·(simp only [Act.put, sia_, sz_, ss_, i64_w, i32_w]); rfl
         refine pure_ (i := 9) (N := some 17) (v := ?_) (a' := ?_) #[tt,tt,tt,tt,tt,ff,tt,tt,tt,tt,ff,ff,ff,ff,ff,ff,ff,ff,ff,ff,ff,ff,ff,ff,ff,ff] rfl rfl (any_of HT_.out (by kernel_rfl)) (fun _ _ _ h => h) (Or.inl ⟨by rfl, ?_⟩) ?_ ?_
         rotate_left
         ·intro w'; go_simp; with_reducible rfl
         rotate_left
         ·(simp only [Act.put, sia_, sz_, ss_, i64_w, i32_w]); rfl
         refine pure_ (i := 10) (N := some 18) (v := ?_) (a' := ?_) #[tt,tt,tt,tt,tt,ff,tt,tt,tt,tt,tt,ff,ff,ff,ff,ff,ff,ff,ff,ff,ff,ff,ff,ff,ff,ff] rfl rfl (any_of HT_.out (by kernel_rfl)) (fun _ _ _ h => h) (Or.inl ⟨by rfl, ?_⟩) ?_ ?_
         rotate_left
         ·intro w'; go_simp; with_reducible rfl
         rotate_left
         ·(simp only [Act.put, sia_, sz_, ss_, i64_w, i32_w]); rfl
         refine pure_ (i := 12) (N := some 20) (v := ?_) (a' := ?_) #[tt,tt,tt,tt,tt,ff,tt,tt,tt,tt,tt,ff,tt,ff,ff,ff,ff,ff,ff,ff,ff,ff,ff,ff,ff,ff] rfl rfl (any_of HT_.out (by kernel_rfl)) (fun _ _ _ h => h) (Or.inl ⟨by rfl, ?_⟩) ?_ ?_
         rotate_left
         ·intro w'; go_simp; with_reducible rfl
         rotate_left
         ·(simp only [Act.put, sia_, sz_, ss_, i64_w, i32_w]); rfl
         refine pure_ (i := 13) (N := some 21) (v := ?_) (a' := ?_) #[tt,tt,tt,tt,tt,ff,tt,tt,tt,tt,tt,ff,tt,tt,ff,ff,ff,ff,ff,ff,ff,ff,ff,ff,ff,ff] rfl rfl (any_of HT_.out (by kernel_rfl)) (fun _ _ _ h => h) (Or.inl ⟨by rfl, ?_⟩) ?_ ?_
         rotate_left
         ·intro w'; go_simp; with_reducible rfl
         rotate_left
         ·(simp only [Act.put, sia_, sz_, ss_, i64_w, i32_w]); rfl
         refine pure_ (i := 14) (N := some 22) (v := ?_) (a' := ?_) #[tt,tt,tt,tt,tt,ff,tt,tt,tt,tt,tt,ff,tt,tt,tt,ff,ff,ff,ff,ff,ff,ff,ff,ff,ff,ff] rfl rfl (any_of HT_.out (by kernel_rfl)) (fun _ _ _ h => h) (Or.inl ⟨by rfl, ?_⟩) ?_ ?_
         rotate_left
         ·intro w'; go_simp; with_reducible rfl
         rotate_left
         ·(simp only [Act.put, sia_, sz_, ss_, i64_w, i32_w]); rfl
         refine pure_ (i := 15) (N := some 23) (v := ?_) (a' := ?_) #[tt,tt,tt,tt,tt,ff,tt,tt,tt,tt,tt,ff,tt,tt,tt,tt,ff,ff,ff,ff,ff,ff,ff,ff,ff,ff] rfl rfl (any_of HT_.out (by kernel_rfl)) (fun _ _ _ h => h) (Or.inl ⟨by rfl, ?_⟩) ?_ ?_
         rotate_left
         ·intro w'; go_simp; with_reducible rfl
         rotate_left
         ·(simp only [Act.put, sia_, sz_, ss_, i64_w, i32_w]); rfl
         refine pure_ (i := 16) (N := some 24) (v := ?_) (a' := ?_) #[tt,tt,tt,tt,tt,ff,tt,tt,tt,tt,tt,ff,tt,tt,tt,tt,tt,ff,ff,ff,ff,ff,ff,ff,ff,ff] rfl rfl (any_of HT_.out (by kernel_rfl)) (fun _ _ _ h => h) (Or.inl ⟨by rfl, ?_⟩) ?_ ?_
         rotate_left
         ·intro w'; go_simp; with_reducible rfl
         rotate_left
         ·(simp only [Act.put, sia_, sz_, ss_, i64_w, i32_w]); rfl
         refine pure_ (i := 18) (N := some 26) (v := ?_) (a' := ?_) #[tt,tt,tt,tt,tt,ff,tt,tt,tt,tt,tt,ff,tt,tt,tt,tt,tt,ff,tt,ff,ff,ff,ff,ff,ff,ff] rfl rfl (any_of HT_.out (by kernel_rfl)) (fun _ _ _ h => h) (Or.inl ⟨by rfl, ?_⟩) ?_ ?_
         rotate_left
         ·intro w'; go_simp; with_reducible rfl
         rotate_left
         ·(simp only [Act.put, sia_, sz_, ss_, i64_w, i32_w]); rfl
         refine pure_ (i := 19) (N := some 27) (v := ?_) (a' := ?_) #[tt,tt,tt,tt,tt,ff,tt,tt,tt,tt,tt,ff,tt,tt,tt,tt,tt,ff,tt,tt,ff,ff,ff,ff,ff,ff] rfl rfl (any_of HT_.out (by kernel_rfl)) (fun _ _ _ h => h) (Or.inl ⟨by rfl, ?_⟩) ?_ ?_
         rotate_left
         ·intro w'; go_simp; with_reducible rfl
         rotate_left
         ·(simp only [Act.put, sia_, sz_, ss_, i64_w, i32_w]); rfl
         refine pure_ (i := 20) (N := some 28) (v := ?_) (a' := ?_) #[tt,tt,tt,tt,tt,ff,tt,tt,tt,tt,tt,ff,tt,tt,tt,tt,tt,ff,tt,tt,tt,ff,ff,ff,ff,ff] rfl rfl (any_of HT_.out (by kernel_rfl)) (fun _ _ _ h => h) (Or.inl ⟨by rfl, ?_⟩) ?_ ?_
         rotate_left
         ·intro w'; go_simp; with_reducible rfl
         rotate_left
         ·(simp only [Act.put, sia_, sz_, ss_, i64_w, i32_w]); rfl
         refine pure_ (i := 21) (N := some 29) (v := ?_) (a' := ?_) #[tt,tt,tt,tt,tt,ff,tt,tt,tt,tt,tt,ff,tt,tt,tt,tt,tt,ff,tt,tt,tt,tt,ff,ff,ff,ff] rfl rfl (any_of HT_.out (by kernel_rfl)) (fun _ _ _ h => h) (Or.inl ⟨by rfl, ?_⟩) ?_ ?_
         rotate_left
         ·intro w'; go_simp; with_reducible rfl
         rotate_left
         ·(simp only [Act.put, sia_, sz_, ss_, i64_w, i32_w]); rfl
         refine pure_ (i := 22) (N := some 30) (v := ?_) (a' := ?_) #[tt,tt,tt,tt,tt,ff,tt,tt,tt,tt,tt,ff,tt,tt,tt,tt,tt,ff,tt,tt,tt,tt,tt,ff,ff,ff] rfl rfl (any_of HT_.out (by kernel_rfl)) (fun _ _ _ h => h) (Or.inl ⟨by rfl, ?_⟩) ?_ ?_
         rotate_left
         ·intro w'; go_simp; with_reducible rfl
         rotate_left
         ·(simp only [Act.put, sia_, sz_, ss_, i64_w, i32_w]); rfl
         refine take_ (i := 5) (N := some 13) (v := ?_) (a' := ?_) #[tt,tt,tt,tt,tt,tt,tt,tt,tt,tt,tt,ff,tt,tt,tt,tt,tt,ff,tt,tt,tt,tt,tt,ff,ff,ff] rfl rfl (take_ofW HT_.out HW_.out (by kernel_rfl)) (fun _ _ _ h => h) (Or.inl ⟨by rfl, ?_⟩) hHeld ?_ ?_
         rotate_left
         ·(rintro w' ⟨s0, s1, s2, s3⟩); go_simp; with_reducible rfl
         rotate_left
         ·(simp only [Act.put, sia_, sz_, ss_, i64_w, i32_w]); rfl
         refine take_ (i := 11) (N := some 19) (v := ?_) (a' := ?_) #[tt,tt,tt,tt,tt,tt,tt,tt,tt,tt,tt,tt,tt,tt,tt,tt,tt,ff,tt,tt,tt,tt,tt,ff,ff,ff] rfl rfl (take_ofW HT_.out HW_.out (by kernel_rfl)) (fun _ _ _ h => h) (Or.inl ⟨by rfl, ?_⟩) hHeld ?_ ?_
         rotate_left
         ·(rintro w' ⟨s0, s1, s2, s3⟩); go_simp; with_reducible rfl
         rotate_left
         ·(simp only [Act.put, sia_, sz_, ss_, i64_w, i32_w]); rfl
         refine take_ (i := 17) (N := some 25) (v := ?_) (a' := ?_) #[tt,tt,tt,tt,tt,tt,tt,tt,tt,tt,tt,tt,tt,tt,tt,tt,tt,tt,tt,tt,tt,tt,tt,ff,ff,ff] rfl rfl (take_ofW HT_.out HW_.out (by kernel_rfl)) (fun _ _ _ h => h) (Or.inl ⟨by rfl, ?_⟩) hHeld ?_ ?_
         rotate_left
         ·(rintro w' ⟨s0, s1, s2, s3⟩); go_simp; with_reducible rfl
         rotate_left
         ·(simp only [Act.put, sia_, sz_, ss_, i64_w, i32_w]); rfl
         refine take_ (i := 23) (N := some 31) (v := ?_) (a' := ?_) #[tt,tt,tt,tt,tt,tt,tt,tt,tt,tt,tt,tt,tt,tt,tt,tt,tt,tt,tt,tt,tt,tt,tt,tt,ff,ff] rfl rfl (take_ofW HT_.out HW_.out (by kernel_rfl)) (fun _ _ _ h => h) (Or.inl ⟨by rfl, ?_⟩) hHeld ?_ ?_
         rotate_left
         ·(rintro w' ⟨s0, s1, s2, s3⟩); go_simp; with_reducible rfl
         rotate_left
         ·(simp only [Act.put, sia_, sz_, ss_, i64_w, i32_w]); rfl
         refine pure_ (i := 24) (N := some 32) (v := ?_) (a' := ?_) #[tt,tt,tt,tt,tt,tt,tt,tt,tt,tt,tt,tt,tt,tt,tt,tt,tt,tt,tt,tt,tt,tt,tt,tt,tt,ff] rfl rfl (any_of HT_.out (by kernel_rfl)) (fun _ _ _ h => h) (Or.inl ⟨by rfl, ?_⟩) ?_ ?_
         rotate_left
         ·intro w'; go_simp; with_reducible rfl
         rotate_left
         ·(simp only [Act.put, sia_, sz_, ss_, i64_w, i32_w]); rfl
         refine one_ (i := 25) (N := none) #[tt,tt,tt,tt,tt,tt,tt,tt,tt,tt,tt,tt,tt,tt,tt,tt,tt,tt,tt,tt,tt,tt,tt,tt,tt,tt] rfl rfl (one_of HT_.out (by kernel_rfl)) (by decide) (fun K hK => ?_)
         (have hs23 : w21.cell? ⟨gb112, 0, none⟩ = some (.int .i64 0) := (blk_cell BK112.out 0).trans rfl); (have hfs23 := blk_frozen BK112.out 0); (have hns23_0 := NB111_112.out); (have hms23_0 := NB112_111.out); (have hs24 : w21.cell? ⟨gb112, 1, none⟩ = some (.int .i64 0) := (blk_cell BK112.out 1).trans rfl); (have hfs24 := blk_frozen BK112.out 1); (have hns24_0 := NB111_112.out); (have hms24_0 := NB112_111.out); (have hs25 : w21.cell? ⟨gb112, 2, none⟩ = some (.int .i64 0) := (blk_cell BK112.out 2).trans rfl); (have hfs25 := blk_frozen BK112.out 2); (have hns25_0 := NB111_112.out); (have hms25_0 := NB112_111.out); (have hs26 : w21.cell? ⟨gb112, 3, none⟩ = some (.int .i64 0) := (blk_cell BK112.out 3).trans rfl); (have hfs26 := blk_frozen BK112.out 3); (have hns26_0 := NB111_112.out); (have hms26_0 := NB112_111.out); (refine skip_ (w1 := ?_) (by rfl) rfl ?_ ?_); rotate_left
         ·go_simp; rfl
         refine hK.out _ _ ⟨((cell_far (p := ⟨gb112, _, none⟩) (by first | exact Kd.own_blk (Kd.R_ne HO115.out BK112.out (by decide)) | (rw [add_block]; exact Kd.own_blk (Kd.R_ne HO115.out BK112.out (by decide))) | (show (Addr.add _ _).block ≠ _; rw [add_block]; exact Kd.own_blk (Kd.R_ne HO115.out BK112.out (by decide))) | (dsimp only; exact Kd.own_blk (Kd.R_ne HO115.out BK112.out (by decide)))) _).trans (((cell_far (p := ⟨gb112, _, none⟩) (by first | exact Kd.own_blk (Kd.R_ne HO115.out BK112.out (by decide)) | (rw [add_block]; exact Kd.own_blk (Kd.R_ne HO115.out BK112.out (by decide))) | (show (Addr.add _ _).block ≠ _; rw [add_block]; exact Kd.own_blk (Kd.R_ne HO115.out BK112.out (by decide))) | (dsimp only; exact Kd.own_blk (Kd.R_ne HO115.out BK112.out (by decide)))) _).trans (((cell_far (p := ⟨gb112, _, none⟩) (by first | exact Kd.own_blk (Kd.R_ne HO115.out BK112.out (by decide)) | (rw [add_block]; exact Kd.own_blk (Kd.R_ne HO115.out BK112.out (by decide))) | (show (Addr.add _ _).block ≠ _; rw [add_block]; exact Kd.own_blk (Kd.R_ne HO115.out BK112.out (by decide))) | (dsimp only; exact Kd.own_blk (Kd.R_ne HO115.out BK112.out (by decide)))) _).trans (((cell_far (p := ⟨gb112, _, none⟩) (by first | exact Kd.own_blk (Kd.R_ne HO115.out BK112.out (by decide)) | (rw [add_block]; exact Kd.own_blk (Kd.R_ne HO115.out BK112.out (by decide))) | (show (Addr.add _ _).block ≠ _; rw [add_block]; exact Kd.own_blk (Kd.R_ne HO115.out BK112.out (by decide))) | (dsimp only; exact Kd.own_blk (Kd.R_ne HO115.out BK112.out (by decide)))) _).trans (hHeld.1)))))))), ((cell_far (p := ⟨gb112, _, none⟩) (by first | exact Kd.own_blk (Kd.R_ne HO115.out BK112.out (by decide)) | (rw [add_block]; exact Kd.own_blk (Kd.R_ne HO115.out BK112.out (by decide))) | (show (Addr.add _ _).block ≠ _; rw [add_block]; exact Kd.own_blk (Kd.R_ne HO115.out BK112.out (by decide))) | (dsimp only; exact Kd.own_blk (Kd.R_ne HO115.out BK112.out (by decide)))) _).trans (((cell_far (p := ⟨gb112, _, none⟩) (by first | exact Kd.own_blk (Kd.R_ne HO115.out BK112.out (by decide)) | (rw [add_block]; exact Kd.own_blk (Kd.R_ne HO115.out BK112.out (by decide))) | (show (Addr.add _ _).block ≠ _; rw [add_block]; exact Kd.own_blk (Kd.R_ne HO115.out BK112.out (by decide))) | (dsimp only; exact Kd.own_blk (Kd.R_ne HO115.out BK112.out (by decide)))) _).trans (((cell_far (p := ⟨gb112, _, none⟩) (by first | exact Kd.own_blk (Kd.R_ne HO115.out BK112.out (by decide)) | (rw [add_block]; exact Kd.own_blk (Kd.R_ne HO115.out BK112.out (by decide))) | (show (Addr.add _ _).block ≠ _; rw [add_block]; exact Kd.own_blk (Kd.R_ne HO115.out BK112.out (by decide))) | (dsimp only; exact Kd.own_blk (Kd.R_ne HO115.out BK112.out (by decide)))) _).trans (((cell_far (p := ⟨gb112, _, none⟩) (by first | exact Kd.own_blk (Kd.R_ne HO115.out BK112.out (by decide)) | (rw [add_block]; exact Kd.own_blk (Kd.R_ne HO115.out BK112.out (by decide))) | (show (Addr.add _ _).block ≠ _; rw [add_block]; exact Kd.own_blk (Kd.R_ne HO115.out BK112.out (by decide))) | (dsimp only; exact Kd.own_blk (Kd.R_ne HO115.out BK112.out (by decide)))) _).trans (hHeld.2.1)))))))), ((cell_far (p := ⟨gb112, _, none⟩) (by first | exact Kd.own_blk (Kd.R_ne HO115.out BK112.out (by decide)) | (rw [add_block]; exact Kd.own_blk (Kd.R_ne HO115.out BK112.out (by decide))) | (show (Addr.add _ _).block ≠ _; rw [add_block]; exact Kd.own_blk (Kd.R_ne HO115.out BK112.out (by decide))) | (dsimp only; exact Kd.own_blk (Kd.R_ne HO115.out BK112.out (by decide)))) _).trans (((cell_far (p := ⟨gb112, _, none⟩) (by first | exact Kd.own_blk (Kd.R_ne HO115.out BK112.out (by decide)) | (rw [add_block]; exact Kd.own_blk (Kd.R_ne HO115.out BK112.out (by decide))) | (show (Addr.add _ _).block ≠ _; rw [add_block]; exact Kd.own_blk (Kd.R_ne HO115.out BK112.out (by decide))) | (dsimp only; exact Kd.own_blk (Kd.R_ne HO115.out BK112.out (by decide)))) _).trans (((cell_far (p := ⟨gb112, _, none⟩) (by first | exact Kd.own_blk (Kd.R_ne HO115.out BK112.out (by decide)) | (rw [add_block]; exact Kd.own_blk (Kd.R_ne HO115.out BK112.out (by decide))) | (show (Addr.add _ _).block ≠ _; rw [add_block]; exact Kd.own_blk (Kd.R_ne HO115.out BK112.out (by decide))) | (dsimp only; exact Kd.own_blk (Kd.R_ne HO115.out BK112.out (by decide)))) _).trans (((cell_far (p := ⟨gb112, _, none⟩) (by first | exact Kd.own_blk (Kd.R_ne HO115.out BK112.out (by decide)) | (rw [add_block]; exact Kd.own_blk (Kd.R_ne HO115.out BK112.out (by decide))) | (show (Addr.add _ _).block ≠ _; rw [add_block]; exact Kd.own_blk (Kd.R_ne HO115.out BK112.out (by decide))) | (dsimp only; exact Kd.own_blk (Kd.R_ne HO115.out BK112.out (by decide)))) _).trans (hHeld.2.2.1)))))))), ((cell_far (p := ⟨gb112, _, none⟩) (by first | exact Kd.own_blk (Kd.R_ne HO115.out BK112.out (by decide)) | (rw [add_block]; exact Kd.own_blk (Kd.R_ne HO115.out BK112.out (by decide))) | (show (Addr.add _ _).block ≠ _; rw [add_block]; exact Kd.own_blk (Kd.R_ne HO115.out BK112.out (by decide))) | (dsimp only; exact Kd.own_blk (Kd.R_ne HO115.out BK112.out (by decide)))) _).trans (((cell_far (p := ⟨gb112, _, none⟩) (by first | exact Kd.own_blk (Kd.R_ne HO115.out BK112.out (by decide)) | (rw [add_block]; exact Kd.own_blk (Kd.R_ne HO115.out BK112.out (by decide))) | (show (Addr.add _ _).block ≠ _; rw [add_block]; exact Kd.own_blk (Kd.R_ne HO115.out BK112.out (by decide))) | (dsimp only; exact Kd.own_blk (Kd.R_ne HO115.out BK112.out (by decide)))) _).trans (((cell_far (p := ⟨gb112, _, none⟩) (by first | exact Kd.own_blk (Kd.R_ne HO115.out BK112.out (by decide)) | (rw [add_block]; exact Kd.own_blk (Kd.R_ne HO115.out BK112.out (by decide))) | (show (Addr.add _ _).block ≠ _; rw [add_block]; exact Kd.own_blk (Kd.R_ne HO115.out BK112.out (by decide))) | (dsimp only; exact Kd.own_blk (Kd.R_ne HO115.out BK112.out (by decide)))) _).trans (((cell_far (p := ⟨gb112, _, none⟩) (by first | exact Kd.own_blk (Kd.R_ne HO115.out BK112.out (by decide)) | (rw [add_block]; exact Kd.own_blk (Kd.R_ne HO115.out BK112.out (by decide))) | (show (Addr.add _ _).block ≠ _; rw [add_block]; exact Kd.own_blk (Kd.R_ne HO115.out BK112.out (by decide))) | (dsimp only; exact Kd.own_blk (Kd.R_ne HO115.out BK112.out (by decide)))) _).trans (hHeld.2.2.2))))))))⟩ (fun hHeld => ?_)
         clear hK K; (refine done_ (done_of HT_.out (by kernel_rfl)) ?_); (try go_wp2); (refine bodyPost_ret (results_cell_row rfl _ _ gb112 24 #[.int .i64 (rd t113 (ji4)), .int .i64 (rd t113 (ji7)), .int .i64 (rd t113 (ji10)), .int .i64 (rd t113 (ji13))] (0, 0) _ rfl (by (with_reducible repeat (first | apply gn_ | apply gd_ | apply ga_)); refine blk_put (cs := #[.int .i64 (rd t113 (ji4)), .int .i64 (rd t113 (ji7)), .int .i64 (rd t113 (ji10)), .int .i64 0]) ?_ 3 _ rfl; (with_reducible repeat (first | apply gn_ | apply gd_ | apply ga_)); refine blk_put (cs := #[.int .i64 (rd t113 (ji4)), .int .i64 (rd t113 (ji7)), .int .i64 0, .int .i64 0]) ?_ 2 _ rfl; (with_reducible repeat (first | apply gn_ | apply gd_ | apply ga_)); refine blk_put (cs := #[.int .i64 (rd t113 (ji4)), .int .i64 0, .int .i64 0, .int .i64 0]) ?_ 1 _ rfl; (with_reducible repeat (first | apply gn_ | apply gd_ | apply ga_)); refine blk_put (cs := #[.int .i64 0, .int .i64 0, .int .i64 0, .int .i64 0]) ?_ 0 _ rfl; (with_reducible repeat (first | apply gn_ | apply gd_ | apply ga_)); exact BK112.out) Try.underlying24 rfl (by kernel_rfl)) rfl ?_); (exact ⟨by first | rfl | (simp [errW_none, errW_some] <;> rfl) | (simp only [← hji4, ← hji7, ← hji10, ← hji13]; first | rfl | (simp [errW_none, errW_some] <;> rfl)) | (simp [*, errW_none, errW_some] <;> rfl), by repeat (first | (with_reducible first | exact HB.out | apply ba_ | apply bn_ | apply bd_ | refine below_set ?_ GE111.out | refine below_set ?_ GE112.out) | exact HB.out)⟩)
        ·(rw [if_neg c15] at H); (exact absurd H (by simp))
       ·(rw [if_neg c14] at H); (exact absurd H (by simp))
      ·(rw [if_neg c12] at H); (exact absurd H (by simp))
     ·(rw [if_neg c11] at H); (exact absurd H (by simp))
    ·(rw [if_neg c9] at H); (exact absurd H (by simp))
   ·(rw [if_neg c8] at H); (exact absurd H (by simp))
  ·(rw [if_neg c6] at H); (exact absurd H (by simp))
 ·(rw [if_neg c5] at H); (exact absurd H (by simp))
end Go.Proofs.Ytgcagmmghckbbaa.A



/- Plain words on rounds: loops over a list by its index, in 'from some number of rounds on' form. No program in sight. -/
namespace Go.Proofs.YtgcagmmghckbbaaW.PrintMore
open Go.RowKit Go.Proofs.YtgcagmmghckbbaaW.PrintWords
theorem wrap_id {x : Int} (h0 : -9223372036854775808 ≤ x) (h1 : x ≤ 9223372036854775807) : wrap64 x = x := by unfold wrap64; omega
theorem wrap_succ (j : Nat) (h : j < 9223372036854775807) : wrap64 ((j : Int) + 1) = ((j + 1 : Nat) : Int) := by unfold wrap64; omega
theorem Ev.unfold {α : Type} {g f : Nat → Option α} {r : α} (h : ∀ k, g k = f k) (k : Ev f r) : Ev g r := Ev.congr h k
theorem Ev.val {α : Type} {g : Nat → Option α} {r : α} (h : ∀ k, g k = some r) : Ev g r := ⟨0, fun k _ => h k⟩
theorem Ev.bindc {α β : Type} {g : Option α} {f : Nat → α → Option β} {a : α} {r : β} (h : g = some a) (k : Ev (fun n => f n a) r) : Ev (fun n => g.bind (f n)) r := by
  subst h
  exact k
theorem Ev.succ {α : Type} {g : Nat → Option α} {r : α} (h : Ev (fun k => g (k + 1)) r) : Ev g r := Ev.step (fun _ => rfl) h
/-- A loop over a list by its index: from place j on it comes to 'v' of its state and of what is left. -/
theorem ev_list {α σ β : Type} (xs : List α) (l : σ → Int → Nat → Option β) (v : σ → List α → β)
    (hd : ∀ s, Ev (l s (xs.length : Int)) (v s []))
    (hs : ∀ s (j : Nat) (h : j < xs.length), (∀ s', Ev (l s' ((j + 1 : Nat) : Int)) (v s' (xs.drop (j + 1)))) → Ev (l s (j : Int)) (v s (xs[j] :: xs.drop (j + 1)))) :
    ∀ (n j : Nat) (s : σ), j + n = xs.length → Ev (l s (j : Int)) (v s (xs.drop j)) := by
  intro n
  induction n with
  | zero =>
    intro j s h
    have : j = xs.length := by omega
    subst this
    rw [List.drop_length]
    exact hd s
  | succ n ih =>
    intro j s h
    have hj : j < xs.length := by omega
    rw [List.drop_eq_getElem_cons hj]
    exact hs s j hj (fun s' => ih (j + 1) s' (by omega))
theorem ev_list0 {α σ β : Type} (xs : List α) (l : σ → Int → Nat → Option β) (v : σ → List α → β)
    (hd : ∀ s, Ev (l s (xs.length : Int)) (v s []))
    (hs : ∀ s (j : Nat) (h : j < xs.length), (∀ s', Ev (l s' ((j + 1 : Nat) : Int)) (v s' (xs.drop (j + 1)))) → Ev (l s (j : Int)) (v s (xs[j] :: xs.drop (j + 1)))) (s : σ) :
    Ev (l s 0) (v s xs) := by
  have := ev_list xs l v hd hs xs.length 0 s (by omega)
  simpa using this
/-- The same with an invariant of the state and the place. -/
theorem ev_listI {α σ β : Type} (xs : List α) (I : σ → Nat → Prop) (l : σ → Int → Nat → Option β) (v : σ → List α → β)
    (hd : ∀ s, I s xs.length → Ev (l s (xs.length : Int)) (v s []))
    (hs : ∀ s (j : Nat) (h : j < xs.length), I s j → (∀ s', I s' (j + 1) → Ev (l s' ((j + 1 : Nat) : Int)) (v s' (xs.drop (j + 1)))) → Ev (l s (j : Int)) (v s (xs[j] :: xs.drop (j + 1)))) :
    ∀ (n j : Nat) (s : σ), j + n = xs.length → I s j → Ev (l s (j : Int)) (v s (xs.drop j)) := by
  intro n
  induction n with
  | zero =>
    intro j s h hi
    have : j = xs.length := by omega
    subst this
    rw [List.drop_length]
    exact hd s hi
  | succ n ih =>
    intro j s h hi
    have hj : j < xs.length := by omega
    rw [List.drop_eq_getElem_cons hj]
    exact hs s j hj hi (fun s' hi' => ih (j + 1) s' (by omega) hi')
/-- A loop over places: an invariant, what is to be known of the answer, early ends. -/
theorem ev_inv {σ β : Type} (N : Nat) (I : σ → Nat → Prop) (Q : β → Prop) (l : σ → Int → Nat → Option β)
    (hd : ∀ s, I s N → ∃ r, Q r ∧ Ev (l s (N : Int)) r)
    (hs : ∀ s (j : Nat), j < N → I s j → (∃ r, Q r ∧ Ev (l s (j : Int)) r) ∨ ∃ s', I s' (j + 1) ∧ ∀ r, Ev (l s' ((j + 1 : Nat) : Int)) r → Ev (l s (j : Int)) r) :
    ∀ (n j : Nat) (s : σ), j + n = N → I s j → ∃ r, Q r ∧ Ev (l s (j : Int)) r := by
  intro n
  induction n with
  | zero =>
    intro j s h hi
    have : j = N := by omega
    subst this
    exact hd s hi
  | succ n ih =>
    intro j s h hi
    rcases hs s j (by omega) hi with h1 | ⟨s', hi', h1⟩
    · exact h1
    · obtain ⟨r, hq, hr⟩ := ih (j + 1) s' (by omega) hi'
      exact ⟨r, hq, h1 r hr⟩
theorem ev_inv0 {σ β : Type} (N : Nat) (I : σ → Nat → Prop) (Q : β → Prop) (l : σ → Int → Nat → Option β)
    (hd : ∀ s, I s N → ∃ r, Q r ∧ Ev (l s (N : Int)) r)
    (hs : ∀ s (j : Nat), j < N → I s j → (∃ r, Q r ∧ Ev (l s (j : Int)) r) ∨ ∃ s', I s' (j + 1) ∧ ∀ r, Ev (l s' ((j + 1 : Nat) : Int)) r → Ev (l s (j : Int)) r)
    (s : σ) (h0 : I s 0) : ∃ r, Q r ∧ Ev (l s 0) r := ev_inv N I Q l hd hs N 0 s (by omega) h0
/-- The same where the answer is known. -/
theorem ev_at {σ β : Type} (N : Nat) (I : σ → Nat → Prop) (r : β) (l : σ → Int → Nat → Option β)
    (hd : ∀ s, I s N → Ev (l s (N : Int)) r)
    (hs : ∀ s (j : Nat), j < N → I s j → ∃ s', I s' (j + 1) ∧ (Ev (l s' ((j + 1 : Nat) : Int)) r → Ev (l s (j : Int)) r))
    (s : σ) (h0 : I s 0) : Ev (l s 0) r := by
  have key : ∀ (n j : Nat) (s : σ), j + n = N → I s j → Ev (l s (j : Int)) r := by
    intro n
    induction n with
    | zero =>
      intro j s h hi
      have : j = N := by omega
      subst this
      exact hd s hi
    | succ n ih =>
      intro j s h hi
      obtain ⟨s', hi', h1⟩ := hs s j (by omega) hi
      exact h1 (ih (j + 1) s' (by omega) hi')
  exact key N 0 s (by omega) h0
theorem rd_nat (xs : List Int) (j : Nat) (h : j < xs.length) : rd xs (j : Int) = xs[j] := by unfold rd; simp [h]
theorem getD_nat {α : Type} (xs : List α) (d : α) (j : Nat) (h : j < xs.length) : xs.getD ((j : Int).toNat) d = xs[j] := by simp [h]
theorem getD_at {α : Type} (xs : List α) (d : α) (j : Nat) (h : j < xs.length) : xs.getD j d = xs[j] := by simp [h]
end Go.Proofs.YtgcagmmghckbbaaW.PrintMore

/- Plain laws of the jigsaw's small functions: ranges, tiles, turns. No memory in sight. -/
namespace Go.Proofs.Ytgcagmmghckbbaa.A
open Go.RowKit Go.Proofs.YtgcagmmghckbbaaW.PrintWords Go.Proofs.YtgcagmmghckbbaaW.PrintLast Go.Proofs.YtgcagmmghckbbaaW.PrintMore
abbrev Tl := S24
def inB (x lo hi : Int) : Bool := decide (lo ≤ x) && decide (x ≤ hi)
theorem l01In_eq (a b c : Int) : spec_l01In.f a b c = some (inB a b c) := by
  unfold spec_l01In.f inB
  by_cases h : a ≥ b
  · rw [if_pos h]; simp; omega
  · rw [if_neg h]; simp; omega
theorem within_eq (a b c : Int) : impl_within.f a b c = some (inB a b c) := by
  unfold impl_within.f inB
  by_cases h : a ≥ b
  · rw [if_pos h]; simp; omega
  · rw [if_neg h]; simp; omega
def okE (x : Int) : Bool := inB x (-9) 9
def okT (t : Tl) : Bool := okE t.f0 && (okE t.f1 && (okE t.f2 && okE t.f3))
theorem isTile_eq (t : Tl) : impl_isTile.f t.f0 t.f1 t.f2 t.f3 = some (okT t) := by
  unfold impl_isTile.f okT okE
  simp only [within_eq, Option.bind_some]
  cases inB t.f0 (-9) 9 <;> cases inB t.f1 (-9) 9 <;> cases inB t.f2 (-9) 9 <;> simp
theorem notTile_eq : impl_areTiles.p = fun t => !okT t := by
  funext t
  unfold impl_areTiles.p
  rw [isTile_eq]
  rfl
theorem areTiles_eq (k : Nat) (l : List Tl) : impl_areTiles.f k l = some (l.all okT) := by
  unfold impl_areTiles.f
  rw [notTile_eq]
  simp [List.all_eq_not_any_not]
theorem l30Codes_eq (a b c d : Int) : spec_l30Codes.f a b c d = some [a, b, c, d] := rfl
theorem l30Valid_round (k : Nat) (x0 : List Tl) (x3 a b c d : Int) :
    spec_l30Valid.l1 (k + 5) x0 x3 [a, b, c, d] 0 = if okE a && (okE b && (okE c && okE d)) then spec_l30Valid.l0 k x0 (wrap64 (x3 + 1)) else some false := by
  simp only [spec_l30Valid.l1, l01In_eq, Option.bind_some, rd]
  cases ha : okE a <;> cases hb : okE b <;> cases hc : okE c <;> cases hd : okE d <;> simp_all [okE, wrap64]
theorem l30Valid_ev (xs : List Tl) (h : xs.length ≤ maxLen) : Ev (fun k => spec_l30Valid.f k xs) (xs.all okT) := by
  unfold spec_l30Valid.f
  unfold maxLen at h
  refine ev_list0 xs (fun (_ : Unit) i k => spec_l30Valid.l0 k xs i) (fun _ l => l.all okT) (fun _ => ?_) (fun _ j hj ih => ?_) ()
  · exact Ev.step (f := fun _ => some true) (fun k => by simp only [spec_l30Valid.l0]; rw [if_neg (by omega)]) (Ev.now _)
  · refine Ev.step (f := fun k => spec_l30Valid.l1 k xs j [xs[j].f0, xs[j].f1, xs[j].f2, xs[j].f3] 0) (fun k => by
      simp only [spec_l30Valid.l0]
      rw [if_pos (by omega), if_pos (by omega)]
      simp only [l30Codes_eq, Option.bind_some, rd_T24, getD_nat xs _ j hj]) ?_
    obtain ⟨K, hK⟩ := ih ()
    refine ⟨K + 5, fun k hk => ?_⟩
    obtain ⟨m, rfl⟩ : ∃ m, k = m + 5 := ⟨k - 5, by omega⟩
    show spec_l30Valid.l1 (m + 5) _ _ _ _ = _
    rw [l30Valid_round, wrap_succ j (by omega), List.all_cons]
    show (if okT xs[j] = true then _ else _) = _
    cases okT xs[j]
    · rfl
    · simp only [if_true, Bool.true_and]
      exact hK m (by omega)
def turnT (t : Tl) (n : Int) : Tl := if n = 0 then t else if n = 1 then ⟨t.f3, t.f0, t.f1, t.f2⟩ else if n = 2 then ⟨t.f2, t.f3, t.f0, t.f1⟩ else ⟨t.f1, t.f2, t.f3, t.f0⟩
def tup (t : Tl) : Int × Int × Int × Int := (t.f0, t.f1, t.f2, t.f3)
theorem l30Turn_eq (t : Tl) (n : Int) (h0 : 0 ≤ n) (h1 : n ≤ 3) : spec_l30Turn.f t.f0 t.f1 t.f2 t.f3 n = some (tup (turnT t n)) := by
  unfold spec_l30Turn.f
  rw [l30Codes_eq, Option.bind_some]
  have : n = 0 ∨ n = 1 ∨ n = 2 ∨ n = 3 := by omega
  rcases this with rfl | rfl | rfl | rfl <;> simp [wrap64, rd, turnT, tup]
theorem turnTile_at (t : Tl) (n : Int) (h0 : 0 ≤ n) (h1 : n ≤ 3) (k : Nat) : impl_turnTile.f (k + 4) t.f0 t.f1 t.f2 t.f3 n = some (tup (turnT t n)) := by
  unfold impl_turnTile.f
  have : n = 0 ∨ n = 1 ∨ n = 2 ∨ n = 3 := by omega
  rcases this with rfl | rfl | rfl | rfl <;> simp [impl_turnTile.l0, wrap64, turnT, tup]
theorem turnTile_ev (t : Tl) (n : Int) (h0 : 0 ≤ n) (h1 : n ≤ 3) : Ev (fun k => impl_turnTile.f k t.f0 t.f1 t.f2 t.f3 n) (tup (turnT t n)) :=
  ⟨4, fun k hk => by
    obtain ⟨m, rfl⟩ : ∃ m, k = m + 4 := ⟨k - 4, by omega⟩
    exact turnTile_at t n h0 h1 m⟩
theorem inB_iff (x a b : Int) : inB x a b = true ↔ a ≤ x ∧ x ≤ b := by unfold inB; simp
end Go.Proofs.Ytgcagmmghckbbaa.A
















/- Plain laws of what the laws do with tiles and numbers: copies, marks, comparisons; sums of edges, flat edges. -/
namespace Go.Proofs.Ytgcagmmghckbbaa.A
set_option linter.unusedSimpArgs false
set_option linter.unusedVariables false
open Go.RowKit Go.Proofs.YtgcagmmghckbbaaW.PrintWords Go.Proofs.YtgcagmmghckbbaaW.PrintLast Go.Proofs.YtgcagmmghckbbaaW.PrintMore
/-- The code of tiles alone. -/
def tilesC (l : List Tl) : Int := if l.all okT then if (l.length : Int) > 12 then 2 else 0 else 1
theorem tilesCode_ev (l : List Tl) : Ev (fun k => impl_tilesCode.f k l) (tilesC l) := by
  unfold impl_tilesCode.f tilesC
  refine Ev.bind (Ev.val fun k => areTiles_eq k l) (Ev.val fun k => ?_)
  split <;> (try split) <;> rfl
def edges (s : Int) (l : List Tl) : Int := l.foldl (fun s t => wrap64 (s + t.f0 + t.f1 + t.f2 + t.f3)) s
def edgeOut (l : List Tl) : Int × Int := if tilesC l = 0 then (edges 0 l, 0) else (0, tilesC l)
theorem implEdgeSum_ev (l : List Tl) (h : l.length ≤ 1048576) : Ev (fun k => impl_EdgeSum.f k l) (edgeOut l) := by
  unfold impl_EdgeSum.f edgeOut
  refine Ev.bind (tilesCode_ev l) ?_
  by_cases c : tilesC l = 0
  · rw [if_pos c]
    simp only [c, if_true]
    refine ev_list0 l (fun s i k => impl_EdgeSum.l0 k s l (l.length : Int) i) (fun s r => (edges s r, 0)) (fun s => ?_) (fun s j hj ih => ?_) 0
    · exact Ev.step (f := fun _ => some (s, 0)) (fun k => by simp only [impl_EdgeSum.l0]; rw [if_neg (by omega)]) (Ev.now _)
    · refine Ev.step (fun k => ?_) (ih (wrap64 (s + l[j].f0 + l[j].f1 + l[j].f2 + l[j].f3)))
      simp only [impl_EdgeSum.l0, rd_T24, getD_nat l _ j hj]
      rw [if_pos (by omega), if_pos (by omega), if_pos (by omega), wrap_succ j (by omega)]
      congr 1
      unfold wrap64
      omega
  · rw [if_neg c]
    exact Ev.val fun k => by rw [if_neg c]
end Go.Proofs.Ytgcagmmghckbbaa.A


namespace Go.Proofs.Ytgcagmmghckbbaa.A
open Go.RowKit Go.Proofs.YtgcagmmghckbbaaW.PrintWords Go.Proofs.YtgcagmmghckbbaaW.PrintLast Go.Proofs.YtgcagmmghckbbaaW.PrintMore
attribute [local go_sem] max2_int min2_int max_two min_two max_three min_three max_four min_four   -- for this text's walks alone
set_option linter.unusedVariables false
set_option linter.unusedSimpArgs false
def spec_l30Code.f (k : Nat) (l0 : List (S24)) (a1 : Int) (a2 : Int) : Option (Int) := (spec_l30Valid.f k l0).bind fun t457 => (if t457 = true then ((spec_l01In.f a1 1 6).bind fun t458 => (if t458 = true then ((spec_l01In.f a2 1 6).bind fun t459 => (if t459 = true then (if (wrap64 (a1 * a2)) = (l0.length : Int) then (if (l0.length : Int) > 12 then (some 2) else (some 0)) else (some 2)) else (some 2))) else (some 2))) else (some 1))
set_option maxHeartbeats 8000000 in
set_option maxRecDepth 100000 in
theorem spec_l30Code.calls (k : Nat) (A0 : Option Addr) (c0 : Nat) (l0 : List (S24)) (a1 : Int) (a2 : Int) (r : Int) (w : World) (hr0 : Kd.C k24 w A0 l0.length l0) (hc0 : l0.length ≤ c0) (h : spec_l30Code.f k l0 a1 a2 = some r) :
    Calls Try.prog 59 #[.slice A0 l0.length c0, .int .i64 a1, .int .i64 a2] w fun e w' => e = .returned (.int .i64 r) ∧ Below w.heap.size w w' := by
 (have HR0 := A0_ hr0); (have HC0 := A0_ hc0); clear hr0 hc0; (have HB := A0_ (Below.refl w.heap.size w))
 have H : ((spec_l30Valid.f k l0).bind fun t457 => (if t457 = true then ((spec_l01In.f a1 1 6).bind fun t458 => (if t458 = true then ((spec_l01In.f a2 1 6).bind fun t459 => (if t459 = true then (if (wrap64 (a1 * a2)) = (l0.length : Int) then (if (l0.length : Int) > 12 then (some 2) else (some 0)) else (some 2)) else (some 2))) else (some 2))) else (some 1))) = some r := h
 clear h; (replace H := Option.bind_eq_some_iff.mp H); (obtain ⟨t457, A40, H⟩ := H); (try dsimp only at H); (have A4 := A0_ A40); clear A40; (have H0_ := A0_ H); clear H; (go_enter Try.func59, Try.ntmps59); (go_wp2_with (first | ((with_reducible refine gate_callee (f := 49) rfl ?_); refine goesL_ (some 8) rfl rfl Try.func49 (by kernel_rfl) rfl #[.slice A0 l0.length c0] rfl (by (try simp only [List.map_toArray, List.map_cons, List.map_nil]); first | done | rfl | (simp only [List.length_drop, List.length_take]; rfl)) ?_; (with_reducible refine (spec_l30Valid.calls k _ _ l0 t457 _ ?side1 ?side2 A4.out).mono ?_); (case side1 => repeat (first | exact HR0.out | (with_reducible refine Kd.C_alloc ?_ _) | (with_reducible refine Kd.C_drewN ?_ _) | (with_reducible refine Kd.C_drew ?_))); (case side2 => exact HC0.out); rintro e w5 ⟨rfl, hb⟩; refine ⟨_, rfl, ?_⟩; have n0_ := A0_ (below_step (by repeat (first | (with_reducible first | exact HB.out | apply ba_ | apply bn_ | apply bd_) | exact HB.out)) hb); clear HB; have HB := n0_; clear n0_; (try clear hb); (try clear hb2); (try clear hk); (try clear hi); refine Stop0.out ?_))); (refine Stop0.mk ?_); (have H := H0_.out); clear H0_; (by_cases c6 : t457 = true)
 ·subst c6; (have H1 := H); (rw [if_pos rfl] at H1); clear H; (have H := H1); clear H1; (replace H := Option.bind_eq_some_iff.mp H); (obtain ⟨t458, A70, H⟩ := H); (try dsimp only at H); (have A7 := A0_ A70); clear A70; (have H0_ := A0_ H); clear H; (go_wp2_with (first | ((with_reducible refine gate_callee (f := 50) rfl ?_); refine goesL_ (some 11) rfl rfl Try.func50 (by kernel_rfl) rfl #[.int .i64 a1, .int .i64 1, .int .i64 6] rfl (by (try simp only [List.map_toArray, List.map_cons, List.map_nil]); first | done | rfl | (simp only [List.length_drop, List.length_take]; rfl)) ?_; (with_reducible refine (spec_l01In.calls a1 1 6 t458 _ A7.out).mono ?_); rintro e w' ⟨rfl, ⟨nd, rfl⟩⟩; refine ⟨_, rfl, ?_⟩; refine Stop0.out ?_))); (refine Stop0.mk ?_); (have H := H0_.out); clear H0_; (by_cases c8 : t458 = true)
  ·subst c8; (have H1 := H); (rw [if_pos rfl] at H1); clear H; (have H := H1); clear H1; (replace H := Option.bind_eq_some_iff.mp H); (obtain ⟨t459, A90, H⟩ := H); (try dsimp only at H); (have A9 := A0_ A90); clear A90; (have H0_ := A0_ H); clear H; (go_wp2_with (first | (go_at_call 50; (with_reducible refine (spec_l01In.calls a2 1 6 t459 _ A9.out).mono ?_); rintro e w' ⟨rfl, ⟨nd, rfl⟩⟩; refine Stop0.out ?_))); (refine Stop0.mk ?_); (have H := H0_.out); clear H0_; (by_cases c10 : t459 = true)
   ·subst c10; (have H1 := H); (rw [if_pos rfl] at H1); clear H; (have H := H1); clear H1; (by_cases c11 : (wrap64 (a1 * a2)) = (l0.length : Int))
    ·(rw [if_pos c11] at H); (have c11b0 : ((wrap64 (a1 * a2)) == (l0.length : Int)) = true := beq_iff_eq.mpr c11); (have c11b1 : ((wrap64 (a1 * a2)) != (l0.length : Int)) = false := bne_eq_false_iff_eq.mpr c11); clear c11; (by_cases c12 : (l0.length : Int) > 12)
     ·(rw [if_pos c12] at H); (have c12b0 : decide (12 < (l0.length : Int)) = true := decide_eq_true c12); (have c12b1 : decide (12 < l0.length) = true := decide_eq_true (by omega)); clear c12; (obtain rfl := Option.some.inj H); go_wp2; go_ret; (exact ⟨by first | rfl | (simp [errW_none, errW_some] <;> rfl) | (simp [*, errW_none, errW_some] <;> rfl), by repeat (first | (with_reducible first | exact HB.out | apply ba_ | apply bn_ | apply bd_) | exact HB.out)⟩)
     ·(rw [if_neg c12] at H); (have c12b0 : decide (12 < (l0.length : Int)) = false := decide_eq_false c12); (have c12b1 : decide (12 < l0.length) = false := decide_eq_false (by omega)); clear c12; (obtain rfl := Option.some.inj H); go_wp2; go_ret; (exact ⟨by first | rfl | (simp [errW_none, errW_some] <;> rfl) | (simp [*, errW_none, errW_some] <;> rfl), by repeat (first | (with_reducible first | exact HB.out | apply ba_ | apply bn_ | apply bd_) | exact HB.out)⟩)
    ·(rw [if_neg c11] at H); (have c11b0 : ((wrap64 (a1 * a2)) == (l0.length : Int)) = false := beq_eq_false_iff_ne.mpr c11); (have c11b1 : ((wrap64 (a1 * a2)) != (l0.length : Int)) = true := bne_iff_ne.mpr c11); (obtain rfl := Option.some.inj H); go_wp2; go_ret; (exact ⟨by first | rfl | (simp [errW_none, errW_some] <;> rfl) | (simp [*, errW_none, errW_some] <;> rfl), by repeat (first | (with_reducible first | exact HB.out | apply ba_ | apply bn_ | apply bd_) | exact HB.out)⟩)
   ·(replace c10 := Bool.eq_false_iff.mpr c10); subst c10; (have H1 : (some 2) = some r := by rw [if_neg (show ¬ (false = true) by decide)] at H; exact H); clear H; (have H := H1); clear H1; (obtain rfl := Option.some.inj H); go_wp2; go_ret; (exact ⟨by first | rfl | (simp [errW_none, errW_some] <;> rfl) | (simp [*, errW_none, errW_some] <;> rfl), by repeat (first | (with_reducible first | exact HB.out | apply ba_ | apply bn_ | apply bd_) | exact HB.out)⟩)
  ·(replace c8 := Bool.eq_false_iff.mpr c8); subst c8; (have H1 : (some 2) = some r := by rw [if_neg (show ¬ (false = true) by decide)] at H; exact H); clear H; (have H := H1); clear H1; (obtain rfl := Option.some.inj H); go_wp2; go_ret; (exact ⟨by first | rfl | (simp [errW_none, errW_some] <;> rfl) | (simp [*, errW_none, errW_some] <;> rfl), by repeat (first | (with_reducible first | exact HB.out | apply ba_ | apply bn_ | apply bd_) | exact HB.out)⟩)
 ·(replace c6 := Bool.eq_false_iff.mpr c6); subst c6; (have H1 : (some 1) = some r := by rw [if_neg (show ¬ (false = true) by decide)] at H; exact H); clear H; (have H := H1); clear H1; (obtain rfl := Option.some.inj H); go_wp2; go_ret; (exact ⟨by first | rfl | (simp [errW_none, errW_some] <;> rfl) | (simp [*, errW_none, errW_some] <;> rfl), by repeat (first | (with_reducible first | exact HB.out | apply ba_ | apply bn_ | apply bd_) | exact HB.out)⟩)
end Go.Proofs.Ytgcagmmghckbbaa.A


namespace Go.Proofs.Ytgcagmmghckbbaa.A
open Go.RowKit Go.Proofs.YtgcagmmghckbbaaW.PrintWords Go.Proofs.YtgcagmmghckbbaaW.PrintLast Go.Proofs.YtgcagmmghckbbaaW.PrintMore
attribute [local go_sem] max2_int min2_int max_two min_two max_three min_three max_four min_four   -- for this text's walks alone
set_option linter.unusedVariables false
set_option linter.unusedSimpArgs false
def spec_l30Match.f (a0 : Int) (a1 : Int) : Option (Bool) := if a0 = 0 then (some false) else (some ((wrap64 (a0 + a1)) == 0))
set_option maxHeartbeats 8000000 in
set_option maxRecDepth 100000 in
theorem spec_l30Match.calls (a0 : Int) (a1 : Int) (r : Bool) (w : World) (h : spec_l30Match.f a0 a1 = some r) :
    Calls Try.prog 76 #[.int .i64 a0, .int .i64 a1] w fun e w' => e = .returned (.bool r) ∧ Drawn0 w w' := by
 (have H : (if a0 = 0 then (some false) else (some ((wrap64 (a0 + a1)) == 0))) = some r := h); clear h; (by_cases c3 : a0 = 0)
 ·(rw [if_pos c3] at H); (have c3b0 : (a0 == 0) = true := beq_iff_eq.mpr c3); (have c3b1 : (a0 != 0) = false := bne_eq_false_iff_eq.mpr c3); clear c3; (obtain rfl := Option.some.inj H); (go_enter Try.func76, Try.ntmps76); go_wp2; go_ret; (exact ⟨by first | rfl | (simp; done) | (simp [*]; done), by repeat (first | exact Drawn0.refl _ | apply Drawn0.step)⟩)
 ·(rw [if_neg c3] at H); (have c3b0 : (a0 == 0) = false := beq_eq_false_iff_ne.mpr c3); (have c3b1 : (a0 != 0) = true := bne_iff_ne.mpr c3); (obtain rfl := Option.some.inj H); (go_enter Try.func76, Try.ntmps76); go_wp2; go_ret; (exact ⟨by first | rfl | (simp; done) | (simp [*]; done), by repeat (first | exact Drawn0.refl _ | apply Drawn0.step)⟩)
end Go.Proofs.Ytgcagmmghckbbaa.A

namespace Go.Proofs.Ytgcagmmghckbbaa.A
open Go.RowKit Go.Proofs.YtgcagmmghckbbaaW.PrintWords Go.Proofs.YtgcagmmghckbbaaW.PrintLast Go.Proofs.YtgcagmmghckbbaaW.PrintMore
attribute [local go_sem] max2_int min2_int max_two min_two max_three min_three max_four min_four   -- for this text's walks alone
set_option linter.unusedVariables false
set_option linter.unusedSimpArgs false
def spec_l30Fits.j0 : Nat → List (S24) → Int → Int → Int → Int → Bool → Int → Int → Int → Int → Option (Bool)
  | 0, _, _, _, _, _, _, _, _, _, _ => none
  | k + 1, x0, x2, x9, x10, x11, x37, x462000, x462001, x462002, x462003 => if x37 = true then (some false) else (if x10 = 0 then (if x462003 = 0 then (if x10 > 0 then (if 0 ≤ (wrap64 (x9 - 1)) then (if (wrap64 (x9 - 1)) < (x0.length : Int) then ((spec_l30Match.f x462003 ((rd_T24 x0 (wrap64 (x9 - 1))).f1)).bind fun t463 => (if t463 = true then (if x11 = 0 then (if x462000 = 0 then (some true) else (if x11 > 0 then (if 0 ≤ (wrap64 (x9 - x2)) then (if (wrap64 (x9 - x2)) < (x0.length : Int) then ((spec_l30Match.f x462000 ((rd_T24 x0 (wrap64 (x9 - x2))).f2)).bind fun t465 => (some t465)) else (none)) else (none)) else (some false))) else (if x11 > 0 then (if 0 ≤ (wrap64 (x9 - x2)) then (if (wrap64 (x9 - x2)) < (x0.length : Int) then ((spec_l30Match.f x462000 ((rd_T24 x0 (wrap64 (x9 - x2))).f2)).bind fun t467 => (some t467)) else (none)) else (none)) else (some false))) else (some false))) else (none)) else (none)) else (if x11 = 0 then (if x462000 = 0 then (some true) else (if x11 > 0 then (if 0 ≤ (wrap64 (x9 - x2)) then (if (wrap64 (x9 - x2)) < (x0.length : Int) then ((spec_l30Match.f x462000 ((rd_T24 x0 (wrap64 (x9 - x2))).f2)).bind fun t469 => (some t469)) else (none)) else (none)) else (some false))) else (if x11 > 0 then (if 0 ≤ (wrap64 (x9 - x2)) then (if (wrap64 (x9 - x2)) < (x0.length : Int) then ((spec_l30Match.f x462000 ((rd_T24 x0 (wrap64 (x9 - x2))).f2)).bind fun t471 => (some t471)) else (none)) else (none)) else (some false)))) else (some false)) else (if x10 > 0 then (if 0 ≤ (wrap64 (x9 - 1)) then (if (wrap64 (x9 - 1)) < (x0.length : Int) then ((spec_l30Match.f x462003 ((rd_T24 x0 (wrap64 (x9 - 1))).f1)).bind fun t473 => (if t473 = true then (if x11 = 0 then (if x462000 = 0 then (some true) else (if x11 > 0 then (if 0 ≤ (wrap64 (x9 - x2)) then (if (wrap64 (x9 - x2)) < (x0.length : Int) then ((spec_l30Match.f x462000 ((rd_T24 x0 (wrap64 (x9 - x2))).f2)).bind fun t475 => (some t475)) else (none)) else (none)) else (some false))) else (if x11 > 0 then (if 0 ≤ (wrap64 (x9 - x2)) then (if (wrap64 (x9 - x2)) < (x0.length : Int) then ((spec_l30Match.f x462000 ((rd_T24 x0 (wrap64 (x9 - x2))).f2)).bind fun t477 => (some t477)) else (none)) else (none)) else (some false))) else (some false))) else (none)) else (none)) else (if x11 = 0 then (if x462000 = 0 then (some true) else (if x11 > 0 then (if 0 ≤ (wrap64 (x9 - x2)) then (if (wrap64 (x9 - x2)) < (x0.length : Int) then ((spec_l30Match.f x462000 ((rd_T24 x0 (wrap64 (x9 - x2))).f2)).bind fun t479 => (some t479)) else (none)) else (none)) else (some false))) else (if x11 > 0 then (if 0 ≤ (wrap64 (x9 - x2)) then (if (wrap64 (x9 - x2)) < (x0.length : Int) then ((spec_l30Match.f x462000 ((rd_T24 x0 (wrap64 (x9 - x2))).f2)).bind fun t481 => (some t481)) else (none)) else (none)) else (some false)))))
def spec_l30Fits.f (k : Nat) (l0 : List (S24)) (a1_0 : Int) (a1_1 : Int) (a1_2 : Int) (a1_3 : Int) (a2 : Int) (a3 : Int) : Option (Bool) := if a2 = 0 then (none) else (if ((a1_1 == 0) != (((l0.length : Int) % a2) == (wrap64 (a2 - 1)))) = true then (spec_l30Fits.j0 k l0 a2 (l0.length : Int) ((l0.length : Int) % a2) (wrap64 ((l0.length : Int) / a2)) true a1_0 a1_1 a1_2 a1_3) else (spec_l30Fits.j0 k l0 a2 (l0.length : Int) ((l0.length : Int) % a2) (wrap64 ((l0.length : Int) / a2)) ((a1_2 == 0) != ((wrap64 ((l0.length : Int) / a2)) == (wrap64 (a3 - 1)))) a1_0 a1_1 a1_2 a1_3))
set_option maxHeartbeats 8000000 in
set_option maxRecDepth 100000 in
theorem spec_l30Fits.calls (k : Nat) (A0 : Option Addr) (c0 : Nat) (l0 : List (S24)) (a1_0 : Int) (a1_1 : Int) (a1_2 : Int) (a1_3 : Int) (a2 : Int) (a3 : Int) (r : Bool) (w : World) (hr0 : Kd.C k24 w A0 l0.length l0) (hc0 : l0.length ≤ c0) (h : spec_l30Fits.f k l0 a1_0 a1_1 a1_2 a1_3 a2 a3 = some r) :
    Calls Try.prog 61 #[.slice A0 l0.length c0, .agg #[.int .i64 a1_0, .int .i64 a1_1, .int .i64 a1_2, .int .i64 a1_3], .int .i64 a2, .int .i64 a3] w fun e w' => e = .returned (.bool r) ∧ Below w.heap.size w w' := by
 (have hu24 := Try.underlying24); (have HR0 := A0_ hr0); (have HC0 := A0_ hc0); clear hr0 hc0; (have HB := A0_ (Below.refl w.heap.size w)); (have H : (if a2 = 0 then (none) else (if ((a1_1 == 0) != (((l0.length : Int) % a2) == (wrap64 (a2 - 1)))) = true then (spec_l30Fits.j0 k l0 a2 (l0.length : Int) ((l0.length : Int) % a2) (wrap64 ((l0.length : Int) / a2)) true a1_0 a1_1 a1_2 a1_3) else (spec_l30Fits.j0 k l0 a2 (l0.length : Int) ((l0.length : Int) % a2) (wrap64 ((l0.length : Int) / a2)) ((a1_2 == 0) != ((wrap64 ((l0.length : Int) / a2)) == (wrap64 (a3 - 1)))) a1_0 a1_1 a1_2 a1_3))) = some r := h); clear h; (by_cases c5 : a2 = 0)
 ·(rw [if_pos c5] at H); (exact absurd H (by simp))
 ·(rw [if_neg c5] at H); (have c5b0 : (a2 == 0) = false := beq_eq_false_iff_ne.mpr c5); (have c5b1 : (a2 != 0) = true := bne_iff_ne.mpr c5); (have HC6 := A0_ H); clear H; (go_enter Try.func61, Try.ntmps61); (go_upto_region 3 with (first | ((with_reducible refine gate_dst (N := 5) rfl ?_); refine box_event ?hg (N := 5) ?hd (cs := #[.int .i64 a1_0, .int .i64 a1_1, .int .i64 a1_2, .int .i64 a1_3]) (t := 24) ?hr ?_; (case hd => rfl); (case hg => rfl); (case hr => first | (go_simp; done) | (go_simp; rfl)); intro gb461 hg w7 hbox hb; have n0_ := A0_ (below_step (by repeat (first | (with_reducible first | exact HB.out | apply ba_ | apply bn_ | apply bd_) | exact HB.out)) hb); have n1_ := A0_ (hbox); have n2_ := A0_ ((by rw [hg]; exact (below_size (by repeat (first | (with_reducible first | exact HB.out | apply ba_ | apply bn_ | apply bd_) | exact HB.out))) : w.heap.size ≤ gb461)); have n3_ := A0_ ((by rw [hg]; exact (below_size (by repeat (first | (with_reducible first | exact HB.out | apply ba_ | apply bn_ | apply bd_) | exact HB.out))) : w.heap.size ≤ gb461)); clear HB; have HB := n0_; have BK461 := n1_; have GW461 := n2_; have GE461 := n3_; clear n0_ n1_ n2_ n3_; clear hb hbox hg))); (repeat (go_quiet (first | ((with_reducible refine gate_dst (N := 5) rfl ?_); refine box_event ?hg (N := 5) ?hd (cs := #[.int .i64 a1_0, .int .i64 a1_1, .int .i64 a1_2, .int .i64 a1_3]) (t := 24) ?hr ?_; (case hd => rfl); (case hg => rfl); (case hr => first | (go_simp; done) | (go_simp; rfl)); intro gb461 hg w7 hbox hb; have n0_ := A0_ (below_step (by repeat (first | (with_reducible first | exact HB.out | apply ba_ | apply bn_ | apply bd_) | exact HB.out)) hb); have n1_ := A0_ (hbox); have n2_ := A0_ ((by rw [hg]; exact (below_size (by repeat (first | (with_reducible first | exact HB.out | apply ba_ | apply bn_ | apply bd_) | exact HB.out))) : w.heap.size ≤ gb461)); have n3_ := A0_ ((by rw [hg]; exact (below_size (by repeat (first | (with_reducible first | exact HB.out | apply ba_ | apply bn_ | apply bd_) | exact HB.out))) : w.heap.size ≤ gb461)); clear HB; have HB := n0_; have BK461 := n1_; have GW461 := n2_; have GE461 := n3_; clear n0_ n1_ n2_ n3_; clear hb hbox hg)); go_upto_region 3 with (first | ((with_reducible refine gate_dst (N := 5) rfl ?_); refine box_event ?hg (N := 5) ?hd (cs := #[.int .i64 a1_0, .int .i64 a1_1, .int .i64 a1_2, .int .i64 a1_3]) (t := 24) ?hr ?_; (case hd => rfl); (case hg => rfl); (case hr => first | (go_simp; done) | (go_simp; rfl)); intro gb461 hg w7 hbox hb; have n0_ := A0_ (below_step (by repeat (first | (with_reducible first | exact HB.out | apply ba_ | apply bn_ | apply bd_) | exact HB.out)) hb); have n1_ := A0_ (hbox); have n2_ := A0_ ((by rw [hg]; exact (below_size (by repeat (first | (with_reducible first | exact HB.out | apply ba_ | apply bn_ | apply bd_) | exact HB.out))) : w.heap.size ≤ gb461)); have n3_ := A0_ ((by rw [hg]; exact (below_size (by repeat (first | (with_reducible first | exact HB.out | apply ba_ | apply bn_ | apply bd_) | exact HB.out))) : w.heap.size ≤ gb461)); clear HB; have HB := n0_; have BK461 := n1_; have GW461 := n2_; have GE461 := n3_; clear n0_ n1_ n2_ n3_; clear hb hbox hg)))); ((try simp only [Act.put, List.setIfInBounds_toArray, List.set_cons_zero, List.set_cons_succ]))
  go_cut [37] (fun v37 wc => ∃ (kq : Nat) (x37_5 : Bool), v37 = .bool x37_5 ∧ Aside0 (spec_l30Fits.j0 kq l0 a2 (l0.length : Int) ((l0.length : Int) % a2) (wrap64 ((l0.length : Int) / a2)) x37_5 a1_0 a1_1 a1_2 a1_3 = some r) ∧ Aside0 (kq ≤ k) ∧ Aside0 (wc.heap[gb461]? = some (.cells #[.int .i64 a1_0, .int .i64 a1_1, .int .i64 a1_2, .int .i64 a1_3] 24 (0, 0))) ∧ Aside0 (Below w.heap.size w wc))
  case first =>
   (have H := HC6.out); clear HC6; (by_cases c8 : ((a1_1 == 0) != (((l0.length : Int) % a2) == (wrap64 (a2 - 1)))) = true)
   ·(rw [if_pos c8] at H); (have c8b0 : ((a1_1 == 0) != (((l0.length : Int) % a2) == (wrap64 (a2 - 1)))) = true := c8); ((try (have c8b1 : decide ((a1_1 == 0) = (((l0.length : Int) % a2) == (wrap64 (a2 - 1)))) = false := by simpa using c8))); ((try (have c8b2 : ((a1_1 == 0) == (((l0.length : Int) % a2) == (wrap64 (a2 - 1)))) = false := by simpa using c8))); ((try (have c8b3 : ¬ ((a1_1 == 0) = (((l0.length : Int) % a2) == (wrap64 (a2 - 1)))) := by simpa using c8))); clear c8; ((first | rw [c8b0] | (simp only [i64_w, i32_w]; rw [c8b0]) | skip)); (have H' := A0_ H); clear H; (have hcz9_0 : w7.cell? ⟨gb461, 0, none⟩ = some (.int .i64 a1_0) := (blk_cell BK461.out 0).trans rfl); (have hcz9_1 : w7.cell? ⟨gb461, 1, none⟩ = some (.int .i64 a1_1) := (blk_cell BK461.out 1).trans rfl); (have hcz9_2 : w7.cell? ⟨gb461, 2, none⟩ = some (.int .i64 a1_2) := (blk_cell BK461.out 2).trans rfl); (have hcz9_3 : w7.cell? ⟨gb461, 3, none⟩ = some (.int .i64 a1_3) := (blk_cell BK461.out 3).trans rfl); (have hfz9_0 := blk_frozen BK461.out 0); (have hfz9_1 := blk_frozen BK461.out 1); (have hfz9_2 := blk_frozen BK461.out 2); (have hfz9_3 := blk_frozen BK461.out 3); go_wp2; (repeat (go_quiet (fail); try go_wp2)); (go_meet)
    case rel => exact ⟨_, (true), (by first | rfl | (simp; done) | (simp [*]; done)), H', ⟨by first | omega | exact Nat.le_refl _⟩, ⟨by (with_reducible repeat (first | apply gn_ | apply gd_ | apply ga_)); exact BK461.out⟩, ⟨by repeat (first | (with_reducible first | exact HB.out | apply ba_ | apply bn_ | apply bd_ | refine below_set ?_ GE461.out) | exact HB.out)⟩⟩
   ·(rw [if_neg c8] at H); (have c8b0 : ((a1_1 == 0) != (((l0.length : Int) % a2) == (wrap64 (a2 - 1)))) = false := by simpa using c8); ((try (have c8b1 : decide ((a1_1 == 0) = (((l0.length : Int) % a2) == (wrap64 (a2 - 1)))) = true := by simpa using c8))); ((try (have c8b2 : ((a1_1 == 0) == (((l0.length : Int) % a2) == (wrap64 (a2 - 1)))) = true := by simpa using c8))); clear c8; ((first | rw [c8b0] | (simp only [i64_w, i32_w]; rw [c8b0]) | skip)); (have H' := A0_ H); clear H; (have hcz10_0 : w7.cell? ⟨gb461, 0, none⟩ = some (.int .i64 a1_0) := (blk_cell BK461.out 0).trans rfl); (have hcz10_1 : w7.cell? ⟨gb461, 1, none⟩ = some (.int .i64 a1_1) := (blk_cell BK461.out 1).trans rfl); (have hcz10_2 : w7.cell? ⟨gb461, 2, none⟩ = some (.int .i64 a1_2) := (blk_cell BK461.out 2).trans rfl); (have hcz10_3 : w7.cell? ⟨gb461, 3, none⟩ = some (.int .i64 a1_3) := (blk_cell BK461.out 3).trans rfl); (have hfz10_0 := blk_frozen BK461.out 0); (have hfz10_1 := blk_frozen BK461.out 1); (have hfz10_2 := blk_frozen BK461.out 2); (have hfz10_3 := blk_frozen BK461.out 3); go_wp2; (repeat (go_quiet (fail); try go_wp2)); (go_meet)
    case rel => exact ⟨_, (((a1_2 == 0) != ((wrap64 ((l0.length : Int) / a2)) == (wrap64 (a3 - 1))))), (by first | rfl | (simp; done) | (simp [*]; done)), H', ⟨by first | omega | exact Nat.le_refl _⟩, ⟨by (with_reducible repeat (first | apply gn_ | apply gd_ | apply ga_)); exact BK461.out⟩, ⟨by repeat (first | (with_reducible first | exact HB.out | apply ba_ | apply bn_ | apply bd_ | refine below_set ?_ GE461.out) | exact HB.out)⟩⟩
  case rest =>
   clear HC6; (try clear p2); (try clear c5); (try clear c5b0); (try clear c5b1); (try clear c6); (try clear p6); (try clear c8); (try clear c8b0); (try clear c8b1); (try clear c8b2); (try clear hcz10_0 hcz10_1 hcz10_2 hcz10_3); (try clear hcz9_0 hcz9_1 hcz9_2 hcz9_3); (try clear hfz10_0 hfz10_1 hfz10_2 hfz10_3); (try clear hfz9_0 hfz9_1 hfz9_2 hfz9_3); (obtain ⟨kq, x37_5, rfl, HA, HJ5, BK461, HB⟩ := hcut)
   cases kq with
   | zero => exact absurd HA.out (by simp [spec_l30Fits.j0])
   | succ kj5 =>
    (have H := HA.out); clear HA; (simp only [spec_l30Fits.j0] at H); (by_cases c11 : x37_5 = true)
    ·subst c11; (have H1 := H); (rw [if_pos rfl] at H1); clear H; (have H := H1); clear H1; (obtain rfl := Option.some.inj H); go_wp2; (repeat (go_quiet (fail); try go_wp2)); go_ret; (exact ⟨by first | rfl | (simp [errW_none, errW_some] <;> rfl) | (simp [*, errW_none, errW_some] <;> rfl), by repeat (first | (with_reducible first | exact HB.out | apply ba_ | apply bn_ | apply bd_ | refine below_set ?_ GE461.out) | exact HB.out)⟩)
    ·(replace c11 := Bool.eq_false_iff.mpr c11); subst c11
     have H1 : (if ((l0.length : Int) % a2) = 0 then (if a1_3 = 0 then (if ((l0.length : Int) % a2) > 0 then (if 0 ≤ (wrap64 ((l0.length : Int) - 1)) then (if (wrap64 ((l0.length : Int) - 1)) < (l0.length : Int) then ((spec_l30Match.f a1_3 ((rd_T24 l0 (wrap64 ((l0.length : Int) - 1))).f1)).bind fun t463 => (if t463 = true then (if (wrap64 ((l0.length : Int) / a2)) = 0 then (if a1_0 = 0 then (some true) else (if (wrap64 ((l0.length : Int) / a2)) > 0 then (if 0 ≤ (wrap64 ((l0.length : Int) - a2)) then (if (wrap64 ((l0.length : Int) - a2)) < (l0.length : Int) then ((spec_l30Match.f a1_0 ((rd_T24 l0 (wrap64 ((l0.length : Int) - a2))).f2)).bind fun t465 => (some t465)) else (none)) else (none)) else (some false))) else (if (wrap64 ((l0.length : Int) / a2)) > 0 then (if 0 ≤ (wrap64 ((l0.length : Int) - a2)) then (if (wrap64 ((l0.length : Int) - a2)) < (l0.length : Int) then ((spec_l30Match.f a1_0 ((rd_T24 l0 (wrap64 ((l0.length : Int) - a2))).f2)).bind fun t467 => (some t467)) else (none)) else (none)) else (some false))) else (some false))) else (none)) else (none)) else (if (wrap64 ((l0.length : Int) / a2)) = 0 then (if a1_0 = 0 then (some true) else (if (wrap64 ((l0.length : Int) / a2)) > 0 then (if 0 ≤ (wrap64 ((l0.length : Int) - a2)) then (if (wrap64 ((l0.length : Int) - a2)) < (l0.length : Int) then ((spec_l30Match.f a1_0 ((rd_T24 l0 (wrap64 ((l0.length : Int) - a2))).f2)).bind fun t469 => (some t469)) else (none)) else (none)) else (some false))) else (if (wrap64 ((l0.length : Int) / a2)) > 0 then (if 0 ≤ (wrap64 ((l0.length : Int) - a2)) then (if (wrap64 ((l0.length : Int) - a2)) < (l0.length : Int) then ((spec_l30Match.f a1_0 ((rd_T24 l0 (wrap64 ((l0.length : Int) - a2))).f2)).bind fun t471 => (some t471)) else (none)) else (none)) else (some false)))) else (some false)) else (if ((l0.length : Int) % a2) > 0 then (if 0 ≤ (wrap64 ((l0.length : Int) - 1)) then (if (wrap64 ((l0.length : Int) - 1)) < (l0.length : Int) then ((spec_l30Match.f a1_3 ((rd_T24 l0 (wrap64 ((l0.length : Int) - 1))).f1)).bind fun t473 => (if t473 = true then (if (wrap64 ((l0.length : Int) / a2)) = 0 then (if a1_0 = 0 then (some true) else (if (wrap64 ((l0.length : Int) / a2)) > 0 then (if 0 ≤ (wrap64 ((l0.length : Int) - a2)) then (if (wrap64 ((l0.length : Int) - a2)) < (l0.length : Int) then ((spec_l30Match.f a1_0 ((rd_T24 l0 (wrap64 ((l0.length : Int) - a2))).f2)).bind fun t475 => (some t475)) else (none)) else (none)) else (some false))) else (if (wrap64 ((l0.length : Int) / a2)) > 0 then (if 0 ≤ (wrap64 ((l0.length : Int) - a2)) then (if (wrap64 ((l0.length : Int) - a2)) < (l0.length : Int) then ((spec_l30Match.f a1_0 ((rd_T24 l0 (wrap64 ((l0.length : Int) - a2))).f2)).bind fun t477 => (some t477)) else (none)) else (none)) else (some false))) else (some false))) else (none)) else (none)) else (if (wrap64 ((l0.length : Int) / a2)) = 0 then (if a1_0 = 0 then (some true) else (if (wrap64 ((l0.length : Int) / a2)) > 0 then (if 0 ≤ (wrap64 ((l0.length : Int) - a2)) then (if (wrap64 ((l0.length : Int) - a2)) < (l0.length : Int) then ((spec_l30Match.f a1_0 ((rd_T24 l0 (wrap64 ((l0.length : Int) - a2))).f2)).bind fun t479 => (some t479)) else (none)) else (none)) else (some false))) else (if (wrap64 ((l0.length : Int) / a2)) > 0 then (if 0 ≤ (wrap64 ((l0.length : Int) - a2)) then (if (wrap64 ((l0.length : Int) - a2)) < (l0.length : Int) then ((spec_l30Match.f a1_0 ((rd_T24 l0 (wrap64 ((l0.length : Int) - a2))).f2)).bind fun t481 => (some t481)) else (none)) else (none)) else (some false))))) = some r := by rw [if_neg (show ¬ (false = true) by decide)] at H; exact H
     clear H; (have H := H1); clear H1; (by_cases c12 : ((l0.length : Int) % a2) = 0)
     ·(rw [if_pos c12] at H); (have c12b0 : (((l0.length : Int) % a2) == 0) = true := beq_iff_eq.mpr c12); (have c12b1 : (((l0.length : Int) % a2) != 0) = false := bne_eq_false_iff_eq.mpr c12); clear c12; (by_cases c13 : a1_3 = 0)
      ·(rw [if_pos c13] at H); (have c13b0 : (a1_3 == 0) = true := beq_iff_eq.mpr c13); (have c13b1 : (a1_3 != 0) = false := bne_eq_false_iff_eq.mpr c13); clear c13; (by_cases c14 : ((l0.length : Int) % a2) > 0)
       ·(rw [if_pos c14] at H); (have c14b0 : decide (0 < ((l0.length : Int) % a2)) = true := decide_eq_true c14); clear c14; (obtain ⟨ji15, hji15⟩ : ∃ j_ : Int, (wrap64 ((l0.length : Int) - 1)) = j_ := ⟨_, rfl⟩)
        replace H : (if 0 ≤ (ji15) then (if (ji15) < (l0.length : Int) then ((spec_l30Match.f a1_3 ((rd_T24 l0 (ji15)).f1)).bind fun t463 => (if t463 = true then (if (wrap64 ((l0.length : Int) / a2)) = 0 then (if a1_0 = 0 then (some true) else (if (wrap64 ((l0.length : Int) / a2)) > 0 then (if 0 ≤ (wrap64 ((l0.length : Int) - a2)) then (if (wrap64 ((l0.length : Int) - a2)) < (l0.length : Int) then ((spec_l30Match.f a1_0 ((rd_T24 l0 (wrap64 ((l0.length : Int) - a2))).f2)).bind fun t465 => (some t465)) else (none)) else (none)) else (some false))) else (if (wrap64 ((l0.length : Int) / a2)) > 0 then (if 0 ≤ (wrap64 ((l0.length : Int) - a2)) then (if (wrap64 ((l0.length : Int) - a2)) < (l0.length : Int) then ((spec_l30Match.f a1_0 ((rd_T24 l0 (wrap64 ((l0.length : Int) - a2))).f2)).bind fun t467 => (some t467)) else (none)) else (none)) else (some false))) else (some false))) else (none)) else (none)) = some r := by first | (rw [hji15] at H; exact H) | (simp only [hji15] at H ⊢; exact H)
        (have hji15w : (IntKind.i64.wrap ((l0.length : Int) - 1)) = ji15 := (i64_w _).trans hji15); (by_cases c16 : 0 ≤ (ji15))
        ·(rw [if_pos c16] at H); (have c16b0 : decide (0 ≤ (ji15)) = true := decide_eq_true c16); clear c16; (by_cases c17 : (ji15) < (l0.length : Int))
         ·(rw [if_pos c17] at H); (have c17b0 : decide ((ji15) < (l0.length : Int)) = true := decide_eq_true c17); clear c17; (replace H := Option.bind_eq_some_iff.mp H); (obtain ⟨t463, A180, H⟩ := H); (try dsimp only at H); (have A18 := A0_ A180); clear A180; (by_cases c19 : t463 = true)
          ·subst c19; (have H1 := H); (rw [if_pos rfl] at H1); clear H; (have H := H1); clear H1; (by_cases c20 : (wrap64 ((l0.length : Int) / a2)) = 0)
           ·(rw [if_pos c20] at H); (have c20b0 : ((wrap64 ((l0.length : Int) / a2)) == 0) = true := beq_iff_eq.mpr c20); (have c20b1 : ((wrap64 ((l0.length : Int) / a2)) != 0) = false := bne_eq_false_iff_eq.mpr c20); clear c20; (by_cases c21 : a1_0 = 0)
            ·(rw [if_pos c21] at H); (have c21b0 : (a1_0 == 0) = true := beq_iff_eq.mpr c21); (have c21b1 : (a1_0 != 0) = false := bne_eq_false_iff_eq.mpr c21); clear c21; (obtain rfl := Option.some.inj H); (have hcz22_0 : wc.cell? ⟨gb461, 0, none⟩ = some (.int .i64 a1_0) := (blk_cell BK461.out 0).trans rfl); (have hcz22_1 : wc.cell? ⟨gb461, 1, none⟩ = some (.int .i64 a1_1) := (blk_cell BK461.out 1).trans rfl); (have hcz22_2 : wc.cell? ⟨gb461, 2, none⟩ = some (.int .i64 a1_2) := (blk_cell BK461.out 2).trans rfl); (have hcz22_3 : wc.cell? ⟨gb461, 3, none⟩ = some (.int .i64 a1_3) := (blk_cell BK461.out 3).trans rfl); (have hfz22_0 := blk_frozen BK461.out 0); (have hfz22_1 := blk_frozen BK461.out 1); (have hfz22_2 := blk_frozen BK461.out 2); (have hfz22_3 := blk_frozen BK461.out 3); (have p462 : 0 ≤ ((ji15) : Int) := of_decide_eq_true (by first | (with_reducible assumption) | assumption)); (have q462 : (ji15) < (l0.length : Int) := of_decide_eq_true (by first | (with_reducible assumption) | assumption)); (obtain ⟨ad462, e462, hx462_0, hx462_1, hx462_2, hx462_3⟩ := at_T24 HR0.out (ji15) p462 q462); (cases e462); (replace hx462_0 := (HB.out.cell (World.block_lt_of_cell? w _ hx462_0)).trans hx462_0); (replace hx462_1 := (HB.out.cell (World.block_lt_of_cell? w _ hx462_1)).trans hx462_1); (replace hx462_2 := (HB.out.cell (World.block_lt_of_cell? w _ hx462_2)).trans hx462_2); (replace hx462_3 := (HB.out.cell (World.block_lt_of_cell? w _ hx462_3)).trans hx462_3); (replace p462 := eq_true p462); (replace q462 := eq_true q462); (go_wp2_with (first | (go_at_call 76; (with_reducible refine (spec_l30Match.calls a1_3 ((rd_T24 l0 (ji15)).f1) true _ A18.out).mono ?_); rintro e w' ⟨rfl, ⟨nd, rfl⟩⟩; (try first | exact ⟨rfl, _, World.drewN_drewN _ _ _⟩ | exact ⟨rfl, _, Eq.trans (World.drewN_drewN _ _ _) (congrArg (World.drewN _) (Nat.add_assoc _ _ _))⟩)))); (repeat (go_quiet (first | (go_at_call 76; (with_reducible refine (spec_l30Match.calls a1_3 ((rd_T24 l0 (ji15)).f1) true _ A18.out).mono ?_); rintro e w' ⟨rfl, ⟨nd, rfl⟩⟩; (try first | exact ⟨rfl, _, World.drewN_drewN _ _ _⟩ | exact ⟨rfl, _, Eq.trans (World.drewN_drewN _ _ _) (congrArg (World.drewN _) (Nat.add_assoc _ _ _))⟩))); try go_wp2_with (first | (go_at_call 76; (with_reducible refine (spec_l30Match.calls a1_3 ((rd_T24 l0 (ji15)).f1) true _ A18.out).mono ?_); rintro e w' ⟨rfl, ⟨nd, rfl⟩⟩; (try first | exact ⟨rfl, _, World.drewN_drewN _ _ _⟩ | exact ⟨rfl, _, Eq.trans (World.drewN_drewN _ _ _) (congrArg (World.drewN _) (Nat.add_assoc _ _ _))⟩))))); go_ret; (exact ⟨by first | rfl | (simp [errW_none, errW_some] <;> rfl) | (simp only [← hji15]; first | rfl | (simp [errW_none, errW_some] <;> rfl)) | (simp [*, errW_none, errW_some] <;> rfl), by repeat (first | (with_reducible first | exact HB.out | apply ba_ | apply bn_ | apply bd_ | refine below_set ?_ GE461.out) | exact HB.out)⟩)
            ·(rw [if_neg c21] at H); (have c21b0 : (a1_0 == 0) = false := beq_eq_false_iff_ne.mpr c21); (have c21b1 : (a1_0 != 0) = true := bne_iff_ne.mpr c21); (by_cases c23 : (wrap64 ((l0.length : Int) / a2)) > 0)
             ·(rw [if_pos c23] at H); (have c23b0 : decide (0 < (wrap64 ((l0.length : Int) / a2))) = true := decide_eq_true c23); clear c23; (obtain ⟨ji24, hji24⟩ : ∃ j_ : Int, (wrap64 ((l0.length : Int) - a2)) = j_ := ⟨_, rfl⟩)
              replace H : (if 0 ≤ (ji24) then (if (ji24) < (l0.length : Int) then ((spec_l30Match.f a1_0 ((rd_T24 l0 (ji24)).f2)).bind fun t465 => (some t465)) else (none)) else (none)) = some r := by first | (rw [hji24] at H; exact H) | (simp only [hji24] at H ⊢; exact H)
              ((try rw [hji24] at A18)); (have hji24w : (IntKind.i64.wrap ((l0.length : Int) - a2)) = ji24 := (i64_w _).trans hji24); (by_cases c25 : 0 ≤ (ji24))
              ·(rw [if_pos c25] at H); (have c25b0 : decide (0 ≤ (ji24)) = true := decide_eq_true c25); clear c25; (by_cases c26 : (ji24) < (l0.length : Int))
               ·(rw [if_pos c26] at H); (have c26b0 : decide ((ji24) < (l0.length : Int)) = true := decide_eq_true c26); clear c26; (replace H := Option.bind_eq_some_iff.mp H); (obtain ⟨t465, A270, H⟩ := H); (try dsimp only at H); (have A27 := A0_ A270); clear A270; (obtain rfl := Option.some.inj H); (have hcz28_0 : wc.cell? ⟨gb461, 0, none⟩ = some (.int .i64 a1_0) := (blk_cell BK461.out 0).trans rfl); (have hcz28_1 : wc.cell? ⟨gb461, 1, none⟩ = some (.int .i64 a1_1) := (blk_cell BK461.out 1).trans rfl); (have hcz28_2 : wc.cell? ⟨gb461, 2, none⟩ = some (.int .i64 a1_2) := (blk_cell BK461.out 2).trans rfl); (have hcz28_3 : wc.cell? ⟨gb461, 3, none⟩ = some (.int .i64 a1_3) := (blk_cell BK461.out 3).trans rfl); (have hfz28_0 := blk_frozen BK461.out 0); (have hfz28_1 := blk_frozen BK461.out 1); (have hfz28_2 := blk_frozen BK461.out 2); (have hfz28_3 := blk_frozen BK461.out 3); (have p462 : 0 ≤ ((ji15) : Int) := of_decide_eq_true (by first | (with_reducible assumption) | assumption)); (have q462 : (ji15) < (l0.length : Int) := of_decide_eq_true (by first | (with_reducible assumption) | assumption)); (obtain ⟨ad462, e462, hx462_0, hx462_1, hx462_2, hx462_3⟩ := at_T24 HR0.out (ji15) p462 q462); (cases e462); (replace hx462_0 := (HB.out.cell (World.block_lt_of_cell? w _ hx462_0)).trans hx462_0); (replace hx462_1 := (HB.out.cell (World.block_lt_of_cell? w _ hx462_1)).trans hx462_1); (replace hx462_2 := (HB.out.cell (World.block_lt_of_cell? w _ hx462_2)).trans hx462_2); (replace hx462_3 := (HB.out.cell (World.block_lt_of_cell? w _ hx462_3)).trans hx462_3); (replace p462 := eq_true p462); (replace q462 := eq_true q462); (go_wp2_with (first | (go_at_call 76; (with_reducible refine (spec_l30Match.calls a1_3 ((rd_T24 l0 (ji15)).f1) true _ A18.out).mono ?_); rintro e w' ⟨rfl, ⟨nd, rfl⟩⟩; (try first | exact ⟨rfl, _, World.drewN_drewN _ _ _⟩ | exact ⟨rfl, _, Eq.trans (World.drewN_drewN _ _ _) (congrArg (World.drewN _) (Nat.add_assoc _ _ _))⟩); have p464 : 0 ≤ ((ji24) : Int) := of_decide_eq_true (by first | (with_reducible assumption) | assumption); have q464 : (ji24) < (l0.length : Int) := of_decide_eq_true (by first | (with_reducible assumption) | assumption); obtain ⟨ad464, e464, hx464_0, hx464_1, hx464_2, hx464_3⟩ := at_T24 HR0.out (ji24) p464 q464; obtain rfl : ad462 = ad464 := (by injection e464); replace hx464_0 := (HB.out.cell (World.block_lt_of_cell? w _ hx464_0)).trans hx464_0; replace hx464_1 := (HB.out.cell (World.block_lt_of_cell? w _ hx464_1)).trans hx464_1; replace hx464_2 := (HB.out.cell (World.block_lt_of_cell? w _ hx464_2)).trans hx464_2; replace hx464_3 := (HB.out.cell (World.block_lt_of_cell? w _ hx464_3)).trans hx464_3; replace p464 := eq_true p464; replace q464 := eq_true q464) | (go_at_call 76; (with_reducible refine (spec_l30Match.calls a1_0 ((rd_T24 l0 (ji24)).f2) t465 _ A27.out).mono ?_); rintro e w' ⟨rfl, ⟨nd, rfl⟩⟩; (try first | exact ⟨rfl, _, World.drewN_drewN _ _ _⟩ | exact ⟨rfl, _, Eq.trans (World.drewN_drewN _ _ _) (congrArg (World.drewN _) (Nat.add_assoc _ _ _))⟩)))); (repeat (go_quiet (first | (go_at_call 76; (with_reducible refine (spec_l30Match.calls a1_3 ((rd_T24 l0 (ji15)).f1) true _ A18.out).mono ?_); rintro e w' ⟨rfl, ⟨nd, rfl⟩⟩; (try first | exact ⟨rfl, _, World.drewN_drewN _ _ _⟩ | exact ⟨rfl, _, Eq.trans (World.drewN_drewN _ _ _) (congrArg (World.drewN _) (Nat.add_assoc _ _ _))⟩); have p464 : 0 ≤ ((ji24) : Int) := of_decide_eq_true (by first | (with_reducible assumption) | assumption); have q464 : (ji24) < (l0.length : Int) := of_decide_eq_true (by first | (with_reducible assumption) | assumption); obtain ⟨ad464, e464, hx464_0, hx464_1, hx464_2, hx464_3⟩ := at_T24 HR0.out (ji24) p464 q464; obtain rfl : ad462 = ad464 := (by injection e464); replace hx464_0 := (HB.out.cell (World.block_lt_of_cell? w _ hx464_0)).trans hx464_0; replace hx464_1 := (HB.out.cell (World.block_lt_of_cell? w _ hx464_1)).trans hx464_1; replace hx464_2 := (HB.out.cell (World.block_lt_of_cell? w _ hx464_2)).trans hx464_2; replace hx464_3 := (HB.out.cell (World.block_lt_of_cell? w _ hx464_3)).trans hx464_3; replace p464 := eq_true p464; replace q464 := eq_true q464) | (go_at_call 76; (with_reducible refine (spec_l30Match.calls a1_0 ((rd_T24 l0 (ji24)).f2) t465 _ A27.out).mono ?_); rintro e w' ⟨rfl, ⟨nd, rfl⟩⟩; (try first | exact ⟨rfl, _, World.drewN_drewN _ _ _⟩ | exact ⟨rfl, _, Eq.trans (World.drewN_drewN _ _ _) (congrArg (World.drewN _) (Nat.add_assoc _ _ _))⟩))); try go_wp2_with (first | (go_at_call 76; (with_reducible refine (spec_l30Match.calls a1_3 ((rd_T24 l0 (ji15)).f1) true _ A18.out).mono ?_); rintro e w' ⟨rfl, ⟨nd, rfl⟩⟩; (try first | exact ⟨rfl, _, World.drewN_drewN _ _ _⟩ | exact ⟨rfl, _, Eq.trans (World.drewN_drewN _ _ _) (congrArg (World.drewN _) (Nat.add_assoc _ _ _))⟩); have p464 : 0 ≤ ((ji24) : Int) := of_decide_eq_true (by first | (with_reducible assumption) | assumption); have q464 : (ji24) < (l0.length : Int) := of_decide_eq_true (by first | (with_reducible assumption) | assumption); obtain ⟨ad464, e464, hx464_0, hx464_1, hx464_2, hx464_3⟩ := at_T24 HR0.out (ji24) p464 q464; obtain rfl : ad462 = ad464 := (by injection e464); replace hx464_0 := (HB.out.cell (World.block_lt_of_cell? w _ hx464_0)).trans hx464_0; replace hx464_1 := (HB.out.cell (World.block_lt_of_cell? w _ hx464_1)).trans hx464_1; replace hx464_2 := (HB.out.cell (World.block_lt_of_cell? w _ hx464_2)).trans hx464_2; replace hx464_3 := (HB.out.cell (World.block_lt_of_cell? w _ hx464_3)).trans hx464_3; replace p464 := eq_true p464; replace q464 := eq_true q464) | (go_at_call 76; (with_reducible refine (spec_l30Match.calls a1_0 ((rd_T24 l0 (ji24)).f2) t465 _ A27.out).mono ?_); rintro e w' ⟨rfl, ⟨nd, rfl⟩⟩; (try first | exact ⟨rfl, _, World.drewN_drewN _ _ _⟩ | exact ⟨rfl, _, Eq.trans (World.drewN_drewN _ _ _) (congrArg (World.drewN _) (Nat.add_assoc _ _ _))⟩))))); go_ret; (exact ⟨by first | rfl | (simp [errW_none, errW_some] <;> rfl) | (simp only [← hji15, ← hji24]; first | rfl | (simp [errW_none, errW_some] <;> rfl)) | (simp [*, errW_none, errW_some] <;> rfl), by repeat (first | (with_reducible first | exact HB.out | apply ba_ | apply bn_ | apply bd_ | refine below_set ?_ GE461.out) | exact HB.out)⟩)
               ·(rw [if_neg c26] at H); (exact absurd H (by simp))
              ·(rw [if_neg c25] at H); (exact absurd H (by simp))
             ·(rw [if_neg c23] at H); (have c23b0 : decide (0 < (wrap64 ((l0.length : Int) / a2))) = false := decide_eq_false c23); clear c23; (obtain rfl := Option.some.inj H); (have hcz29_0 : wc.cell? ⟨gb461, 0, none⟩ = some (.int .i64 a1_0) := (blk_cell BK461.out 0).trans rfl); (have hcz29_1 : wc.cell? ⟨gb461, 1, none⟩ = some (.int .i64 a1_1) := (blk_cell BK461.out 1).trans rfl); (have hcz29_2 : wc.cell? ⟨gb461, 2, none⟩ = some (.int .i64 a1_2) := (blk_cell BK461.out 2).trans rfl); (have hcz29_3 : wc.cell? ⟨gb461, 3, none⟩ = some (.int .i64 a1_3) := (blk_cell BK461.out 3).trans rfl); (have hfz29_0 := blk_frozen BK461.out 0); (have hfz29_1 := blk_frozen BK461.out 1); (have hfz29_2 := blk_frozen BK461.out 2); (have hfz29_3 := blk_frozen BK461.out 3); (have p462 : 0 ≤ ((ji15) : Int) := of_decide_eq_true (by first | (with_reducible assumption) | assumption)); (have q462 : (ji15) < (l0.length : Int) := of_decide_eq_true (by first | (with_reducible assumption) | assumption)); (obtain ⟨ad462, e462, hx462_0, hx462_1, hx462_2, hx462_3⟩ := at_T24 HR0.out (ji15) p462 q462); (cases e462); (replace hx462_0 := (HB.out.cell (World.block_lt_of_cell? w _ hx462_0)).trans hx462_0); (replace hx462_1 := (HB.out.cell (World.block_lt_of_cell? w _ hx462_1)).trans hx462_1); (replace hx462_2 := (HB.out.cell (World.block_lt_of_cell? w _ hx462_2)).trans hx462_2); (replace hx462_3 := (HB.out.cell (World.block_lt_of_cell? w _ hx462_3)).trans hx462_3); (replace p462 := eq_true p462); (replace q462 := eq_true q462); (go_wp2_with (first | (go_at_call 76; (with_reducible refine (spec_l30Match.calls a1_3 ((rd_T24 l0 (ji15)).f1) true _ A18.out).mono ?_); rintro e w' ⟨rfl, ⟨nd, rfl⟩⟩; (try first | exact ⟨rfl, _, World.drewN_drewN _ _ _⟩ | exact ⟨rfl, _, Eq.trans (World.drewN_drewN _ _ _) (congrArg (World.drewN _) (Nat.add_assoc _ _ _))⟩)))); (repeat (go_quiet (first | (go_at_call 76; (with_reducible refine (spec_l30Match.calls a1_3 ((rd_T24 l0 (ji15)).f1) true _ A18.out).mono ?_); rintro e w' ⟨rfl, ⟨nd, rfl⟩⟩; (try first | exact ⟨rfl, _, World.drewN_drewN _ _ _⟩ | exact ⟨rfl, _, Eq.trans (World.drewN_drewN _ _ _) (congrArg (World.drewN _) (Nat.add_assoc _ _ _))⟩))); try go_wp2_with (first | (go_at_call 76; (with_reducible refine (spec_l30Match.calls a1_3 ((rd_T24 l0 (ji15)).f1) true _ A18.out).mono ?_); rintro e w' ⟨rfl, ⟨nd, rfl⟩⟩; (try first | exact ⟨rfl, _, World.drewN_drewN _ _ _⟩ | exact ⟨rfl, _, Eq.trans (World.drewN_drewN _ _ _) (congrArg (World.drewN _) (Nat.add_assoc _ _ _))⟩))))); go_ret; (exact ⟨by first | rfl | (simp [errW_none, errW_some] <;> rfl) | (simp only [← hji15]; first | rfl | (simp [errW_none, errW_some] <;> rfl)) | (simp [*, errW_none, errW_some] <;> rfl), by repeat (first | (with_reducible first | exact HB.out | apply ba_ | apply bn_ | apply bd_ | refine below_set ?_ GE461.out) | exact HB.out)⟩)
           ·(rw [if_neg c20] at H); (have c20b0 : ((wrap64 ((l0.length : Int) / a2)) == 0) = false := beq_eq_false_iff_ne.mpr c20); (have c20b1 : ((wrap64 ((l0.length : Int) / a2)) != 0) = true := bne_iff_ne.mpr c20); (by_cases c30 : (wrap64 ((l0.length : Int) / a2)) > 0)
            ·(rw [if_pos c30] at H); (have c30b0 : decide (0 < (wrap64 ((l0.length : Int) / a2))) = true := decide_eq_true c30); clear c30; (obtain ⟨ji31, hji31⟩ : ∃ j_ : Int, (wrap64 ((l0.length : Int) - a2)) = j_ := ⟨_, rfl⟩)
             replace H : (if 0 ≤ (ji31) then (if (ji31) < (l0.length : Int) then ((spec_l30Match.f a1_0 ((rd_T24 l0 (ji31)).f2)).bind fun t467 => (some t467)) else (none)) else (none)) = some r := by first | (rw [hji31] at H; exact H) | (simp only [hji31] at H ⊢; exact H)
             ((try rw [hji31] at A18)); (have hji31w : (IntKind.i64.wrap ((l0.length : Int) - a2)) = ji31 := (i64_w _).trans hji31); (by_cases c32 : 0 ≤ (ji31))
             ·(rw [if_pos c32] at H); (have c32b0 : decide (0 ≤ (ji31)) = true := decide_eq_true c32); clear c32; (by_cases c33 : (ji31) < (l0.length : Int))
              ·(rw [if_pos c33] at H); (have c33b0 : decide ((ji31) < (l0.length : Int)) = true := decide_eq_true c33); clear c33; (replace H := Option.bind_eq_some_iff.mp H); (obtain ⟨t467, A340, H⟩ := H); (try dsimp only at H); (have A34 := A0_ A340); clear A340; (obtain rfl := Option.some.inj H); (have hcz35_0 : wc.cell? ⟨gb461, 0, none⟩ = some (.int .i64 a1_0) := (blk_cell BK461.out 0).trans rfl); (have hcz35_1 : wc.cell? ⟨gb461, 1, none⟩ = some (.int .i64 a1_1) := (blk_cell BK461.out 1).trans rfl); (have hcz35_2 : wc.cell? ⟨gb461, 2, none⟩ = some (.int .i64 a1_2) := (blk_cell BK461.out 2).trans rfl); (have hcz35_3 : wc.cell? ⟨gb461, 3, none⟩ = some (.int .i64 a1_3) := (blk_cell BK461.out 3).trans rfl); (have hfz35_0 := blk_frozen BK461.out 0); (have hfz35_1 := blk_frozen BK461.out 1); (have hfz35_2 := blk_frozen BK461.out 2); (have hfz35_3 := blk_frozen BK461.out 3); (have p462 : 0 ≤ ((ji15) : Int) := of_decide_eq_true (by first | (with_reducible assumption) | assumption)); (have q462 : (ji15) < (l0.length : Int) := of_decide_eq_true (by first | (with_reducible assumption) | assumption)); (obtain ⟨ad462, e462, hx462_0, hx462_1, hx462_2, hx462_3⟩ := at_T24 HR0.out (ji15) p462 q462); (cases e462); (replace hx462_0 := (HB.out.cell (World.block_lt_of_cell? w _ hx462_0)).trans hx462_0); (replace hx462_1 := (HB.out.cell (World.block_lt_of_cell? w _ hx462_1)).trans hx462_1); (replace hx462_2 := (HB.out.cell (World.block_lt_of_cell? w _ hx462_2)).trans hx462_2); (replace hx462_3 := (HB.out.cell (World.block_lt_of_cell? w _ hx462_3)).trans hx462_3); (replace p462 := eq_true p462); (replace q462 := eq_true q462); (go_wp2_with (first | (go_at_call 76; (with_reducible refine (spec_l30Match.calls a1_3 ((rd_T24 l0 (ji15)).f1) true _ A18.out).mono ?_); rintro e w' ⟨rfl, ⟨nd, rfl⟩⟩; (try first | exact ⟨rfl, _, World.drewN_drewN _ _ _⟩ | exact ⟨rfl, _, Eq.trans (World.drewN_drewN _ _ _) (congrArg (World.drewN _) (Nat.add_assoc _ _ _))⟩); have p466 : 0 ≤ ((ji31) : Int) := of_decide_eq_true (by first | (with_reducible assumption) | assumption); have q466 : (ji31) < (l0.length : Int) := of_decide_eq_true (by first | (with_reducible assumption) | assumption); obtain ⟨ad466, e466, hx466_0, hx466_1, hx466_2, hx466_3⟩ := at_T24 HR0.out (ji31) p466 q466; obtain rfl : ad462 = ad466 := (by injection e466); replace hx466_0 := (HB.out.cell (World.block_lt_of_cell? w _ hx466_0)).trans hx466_0; replace hx466_1 := (HB.out.cell (World.block_lt_of_cell? w _ hx466_1)).trans hx466_1; replace hx466_2 := (HB.out.cell (World.block_lt_of_cell? w _ hx466_2)).trans hx466_2; replace hx466_3 := (HB.out.cell (World.block_lt_of_cell? w _ hx466_3)).trans hx466_3; replace p466 := eq_true p466; replace q466 := eq_true q466) | (go_at_call 76; (with_reducible refine (spec_l30Match.calls a1_0 ((rd_T24 l0 (ji31)).f2) t467 _ A34.out).mono ?_); rintro e w' ⟨rfl, ⟨nd, rfl⟩⟩; (try first | exact ⟨rfl, _, World.drewN_drewN _ _ _⟩ | exact ⟨rfl, _, Eq.trans (World.drewN_drewN _ _ _) (congrArg (World.drewN _) (Nat.add_assoc _ _ _))⟩)))); (repeat (go_quiet (first | (go_at_call 76; (with_reducible refine (spec_l30Match.calls a1_3 ((rd_T24 l0 (ji15)).f1) true _ A18.out).mono ?_); rintro e w' ⟨rfl, ⟨nd, rfl⟩⟩; (try first | exact ⟨rfl, _, World.drewN_drewN _ _ _⟩ | exact ⟨rfl, _, Eq.trans (World.drewN_drewN _ _ _) (congrArg (World.drewN _) (Nat.add_assoc _ _ _))⟩); have p466 : 0 ≤ ((ji31) : Int) := of_decide_eq_true (by first | (with_reducible assumption) | assumption); have q466 : (ji31) < (l0.length : Int) := of_decide_eq_true (by first | (with_reducible assumption) | assumption); obtain ⟨ad466, e466, hx466_0, hx466_1, hx466_2, hx466_3⟩ := at_T24 HR0.out (ji31) p466 q466; obtain rfl : ad462 = ad466 := (by injection e466); replace hx466_0 := (HB.out.cell (World.block_lt_of_cell? w _ hx466_0)).trans hx466_0; replace hx466_1 := (HB.out.cell (World.block_lt_of_cell? w _ hx466_1)).trans hx466_1; replace hx466_2 := (HB.out.cell (World.block_lt_of_cell? w _ hx466_2)).trans hx466_2; replace hx466_3 := (HB.out.cell (World.block_lt_of_cell? w _ hx466_3)).trans hx466_3; replace p466 := eq_true p466; replace q466 := eq_true q466) | (go_at_call 76; (with_reducible refine (spec_l30Match.calls a1_0 ((rd_T24 l0 (ji31)).f2) t467 _ A34.out).mono ?_); rintro e w' ⟨rfl, ⟨nd, rfl⟩⟩; (try first | exact ⟨rfl, _, World.drewN_drewN _ _ _⟩ | exact ⟨rfl, _, Eq.trans (World.drewN_drewN _ _ _) (congrArg (World.drewN _) (Nat.add_assoc _ _ _))⟩))); try go_wp2_with (first | (go_at_call 76; (with_reducible refine (spec_l30Match.calls a1_3 ((rd_T24 l0 (ji15)).f1) true _ A18.out).mono ?_); rintro e w' ⟨rfl, ⟨nd, rfl⟩⟩; (try first | exact ⟨rfl, _, World.drewN_drewN _ _ _⟩ | exact ⟨rfl, _, Eq.trans (World.drewN_drewN _ _ _) (congrArg (World.drewN _) (Nat.add_assoc _ _ _))⟩); have p466 : 0 ≤ ((ji31) : Int) := of_decide_eq_true (by first | (with_reducible assumption) | assumption); have q466 : (ji31) < (l0.length : Int) := of_decide_eq_true (by first | (with_reducible assumption) | assumption); obtain ⟨ad466, e466, hx466_0, hx466_1, hx466_2, hx466_3⟩ := at_T24 HR0.out (ji31) p466 q466; obtain rfl : ad462 = ad466 := (by injection e466); replace hx466_0 := (HB.out.cell (World.block_lt_of_cell? w _ hx466_0)).trans hx466_0; replace hx466_1 := (HB.out.cell (World.block_lt_of_cell? w _ hx466_1)).trans hx466_1; replace hx466_2 := (HB.out.cell (World.block_lt_of_cell? w _ hx466_2)).trans hx466_2; replace hx466_3 := (HB.out.cell (World.block_lt_of_cell? w _ hx466_3)).trans hx466_3; replace p466 := eq_true p466; replace q466 := eq_true q466) | (go_at_call 76; (with_reducible refine (spec_l30Match.calls a1_0 ((rd_T24 l0 (ji31)).f2) t467 _ A34.out).mono ?_); rintro e w' ⟨rfl, ⟨nd, rfl⟩⟩; (try first | exact ⟨rfl, _, World.drewN_drewN _ _ _⟩ | exact ⟨rfl, _, Eq.trans (World.drewN_drewN _ _ _) (congrArg (World.drewN _) (Nat.add_assoc _ _ _))⟩))))); go_ret; (exact ⟨by first | rfl | (simp [errW_none, errW_some] <;> rfl) | (simp only [← hji15, ← hji31]; first | rfl | (simp [errW_none, errW_some] <;> rfl)) | (simp [*, errW_none, errW_some] <;> rfl), by repeat (first | (with_reducible first | exact HB.out | apply ba_ | apply bn_ | apply bd_ | refine below_set ?_ GE461.out) | exact HB.out)⟩)
              ·(rw [if_neg c33] at H); (exact absurd H (by simp))
             ·(rw [if_neg c32] at H); (exact absurd H (by simp))
            ·(rw [if_neg c30] at H); (have c30b0 : decide (0 < (wrap64 ((l0.length : Int) / a2))) = false := decide_eq_false c30); clear c30; (obtain rfl := Option.some.inj H); (have hcz36_0 : wc.cell? ⟨gb461, 0, none⟩ = some (.int .i64 a1_0) := (blk_cell BK461.out 0).trans rfl); (have hcz36_1 : wc.cell? ⟨gb461, 1, none⟩ = some (.int .i64 a1_1) := (blk_cell BK461.out 1).trans rfl); (have hcz36_2 : wc.cell? ⟨gb461, 2, none⟩ = some (.int .i64 a1_2) := (blk_cell BK461.out 2).trans rfl); (have hcz36_3 : wc.cell? ⟨gb461, 3, none⟩ = some (.int .i64 a1_3) := (blk_cell BK461.out 3).trans rfl); (have hfz36_0 := blk_frozen BK461.out 0); (have hfz36_1 := blk_frozen BK461.out 1); (have hfz36_2 := blk_frozen BK461.out 2); (have hfz36_3 := blk_frozen BK461.out 3); (have p462 : 0 ≤ ((ji15) : Int) := of_decide_eq_true (by first | (with_reducible assumption) | assumption)); (have q462 : (ji15) < (l0.length : Int) := of_decide_eq_true (by first | (with_reducible assumption) | assumption)); (obtain ⟨ad462, e462, hx462_0, hx462_1, hx462_2, hx462_3⟩ := at_T24 HR0.out (ji15) p462 q462); (cases e462); (replace hx462_0 := (HB.out.cell (World.block_lt_of_cell? w _ hx462_0)).trans hx462_0); (replace hx462_1 := (HB.out.cell (World.block_lt_of_cell? w _ hx462_1)).trans hx462_1); (replace hx462_2 := (HB.out.cell (World.block_lt_of_cell? w _ hx462_2)).trans hx462_2); (replace hx462_3 := (HB.out.cell (World.block_lt_of_cell? w _ hx462_3)).trans hx462_3); (replace p462 := eq_true p462); (replace q462 := eq_true q462); (go_wp2_with (first | (go_at_call 76; (with_reducible refine (spec_l30Match.calls a1_3 ((rd_T24 l0 (ji15)).f1) true _ A18.out).mono ?_); rintro e w' ⟨rfl, ⟨nd, rfl⟩⟩; (try first | exact ⟨rfl, _, World.drewN_drewN _ _ _⟩ | exact ⟨rfl, _, Eq.trans (World.drewN_drewN _ _ _) (congrArg (World.drewN _) (Nat.add_assoc _ _ _))⟩)))); (repeat (go_quiet (first | (go_at_call 76; (with_reducible refine (spec_l30Match.calls a1_3 ((rd_T24 l0 (ji15)).f1) true _ A18.out).mono ?_); rintro e w' ⟨rfl, ⟨nd, rfl⟩⟩; (try first | exact ⟨rfl, _, World.drewN_drewN _ _ _⟩ | exact ⟨rfl, _, Eq.trans (World.drewN_drewN _ _ _) (congrArg (World.drewN _) (Nat.add_assoc _ _ _))⟩))); try go_wp2_with (first | (go_at_call 76; (with_reducible refine (spec_l30Match.calls a1_3 ((rd_T24 l0 (ji15)).f1) true _ A18.out).mono ?_); rintro e w' ⟨rfl, ⟨nd, rfl⟩⟩; (try first | exact ⟨rfl, _, World.drewN_drewN _ _ _⟩ | exact ⟨rfl, _, Eq.trans (World.drewN_drewN _ _ _) (congrArg (World.drewN _) (Nat.add_assoc _ _ _))⟩))))); go_ret; (exact ⟨by first | rfl | (simp [errW_none, errW_some] <;> rfl) | (simp only [← hji15]; first | rfl | (simp [errW_none, errW_some] <;> rfl)) | (simp [*, errW_none, errW_some] <;> rfl), by repeat (first | (with_reducible first | exact HB.out | apply ba_ | apply bn_ | apply bd_ | refine below_set ?_ GE461.out) | exact HB.out)⟩)
          ·(replace c19 := Bool.eq_false_iff.mpr c19); subst c19; (have H1 : (some false) = some r := by rw [if_neg (show ¬ (false = true) by decide)] at H; exact H); clear H; (have H := H1); clear H1; (obtain rfl := Option.some.inj H); (have hcz37_0 : wc.cell? ⟨gb461, 0, none⟩ = some (.int .i64 a1_0) := (blk_cell BK461.out 0).trans rfl); (have hcz37_1 : wc.cell? ⟨gb461, 1, none⟩ = some (.int .i64 a1_1) := (blk_cell BK461.out 1).trans rfl); (have hcz37_2 : wc.cell? ⟨gb461, 2, none⟩ = some (.int .i64 a1_2) := (blk_cell BK461.out 2).trans rfl); (have hcz37_3 : wc.cell? ⟨gb461, 3, none⟩ = some (.int .i64 a1_3) := (blk_cell BK461.out 3).trans rfl); (have hfz37_0 := blk_frozen BK461.out 0); (have hfz37_1 := blk_frozen BK461.out 1); (have hfz37_2 := blk_frozen BK461.out 2); (have hfz37_3 := blk_frozen BK461.out 3); (have p462 : 0 ≤ ((ji15) : Int) := of_decide_eq_true (by first | (with_reducible assumption) | assumption)); (have q462 : (ji15) < (l0.length : Int) := of_decide_eq_true (by first | (with_reducible assumption) | assumption)); (obtain ⟨ad462, e462, hx462_0, hx462_1, hx462_2, hx462_3⟩ := at_T24 HR0.out (ji15) p462 q462); (cases e462); (replace hx462_0 := (HB.out.cell (World.block_lt_of_cell? w _ hx462_0)).trans hx462_0); (replace hx462_1 := (HB.out.cell (World.block_lt_of_cell? w _ hx462_1)).trans hx462_1); (replace hx462_2 := (HB.out.cell (World.block_lt_of_cell? w _ hx462_2)).trans hx462_2); (replace hx462_3 := (HB.out.cell (World.block_lt_of_cell? w _ hx462_3)).trans hx462_3); (replace p462 := eq_true p462); (replace q462 := eq_true q462); (go_wp2_with (first | (go_at_call 76; (with_reducible refine (spec_l30Match.calls a1_3 ((rd_T24 l0 (ji15)).f1) false _ A18.out).mono ?_); rintro e w' ⟨rfl, ⟨nd, rfl⟩⟩; (try first | exact ⟨rfl, _, World.drewN_drewN _ _ _⟩ | exact ⟨rfl, _, Eq.trans (World.drewN_drewN _ _ _) (congrArg (World.drewN _) (Nat.add_assoc _ _ _))⟩)))); (repeat (go_quiet (first | (go_at_call 76; (with_reducible refine (spec_l30Match.calls a1_3 ((rd_T24 l0 (ji15)).f1) false _ A18.out).mono ?_); rintro e w' ⟨rfl, ⟨nd, rfl⟩⟩; (try first | exact ⟨rfl, _, World.drewN_drewN _ _ _⟩ | exact ⟨rfl, _, Eq.trans (World.drewN_drewN _ _ _) (congrArg (World.drewN _) (Nat.add_assoc _ _ _))⟩))); try go_wp2_with (first | (go_at_call 76; (with_reducible refine (spec_l30Match.calls a1_3 ((rd_T24 l0 (ji15)).f1) false _ A18.out).mono ?_); rintro e w' ⟨rfl, ⟨nd, rfl⟩⟩; (try first | exact ⟨rfl, _, World.drewN_drewN _ _ _⟩ | exact ⟨rfl, _, Eq.trans (World.drewN_drewN _ _ _) (congrArg (World.drewN _) (Nat.add_assoc _ _ _))⟩))))); go_ret; (exact ⟨by first | rfl | (simp [errW_none, errW_some] <;> rfl) | (simp only [← hji15]; first | rfl | (simp [errW_none, errW_some] <;> rfl)) | (simp [*, errW_none, errW_some] <;> rfl), by repeat (first | (with_reducible first | exact HB.out | apply ba_ | apply bn_ | apply bd_ | refine below_set ?_ GE461.out) | exact HB.out)⟩)
         ·(rw [if_neg c17] at H); (exact absurd H (by simp))
        ·(rw [if_neg c16] at H); (exact absurd H (by simp))
       ·(rw [if_neg c14] at H); (have c14b0 : decide (0 < ((l0.length : Int) % a2)) = false := decide_eq_false c14); clear c14; (by_cases c38 : (wrap64 ((l0.length : Int) / a2)) = 0)
        ·(rw [if_pos c38] at H); (have c38b0 : ((wrap64 ((l0.length : Int) / a2)) == 0) = true := beq_iff_eq.mpr c38); (have c38b1 : ((wrap64 ((l0.length : Int) / a2)) != 0) = false := bne_eq_false_iff_eq.mpr c38); clear c38; (by_cases c39 : a1_0 = 0)
         ·(rw [if_pos c39] at H); (have c39b0 : (a1_0 == 0) = true := beq_iff_eq.mpr c39); (have c39b1 : (a1_0 != 0) = false := bne_eq_false_iff_eq.mpr c39); clear c39; (obtain rfl := Option.some.inj H); (have hcz40_0 : wc.cell? ⟨gb461, 0, none⟩ = some (.int .i64 a1_0) := (blk_cell BK461.out 0).trans rfl); (have hcz40_1 : wc.cell? ⟨gb461, 1, none⟩ = some (.int .i64 a1_1) := (blk_cell BK461.out 1).trans rfl); (have hcz40_2 : wc.cell? ⟨gb461, 2, none⟩ = some (.int .i64 a1_2) := (blk_cell BK461.out 2).trans rfl); (have hcz40_3 : wc.cell? ⟨gb461, 3, none⟩ = some (.int .i64 a1_3) := (blk_cell BK461.out 3).trans rfl); (have hfz40_0 := blk_frozen BK461.out 0); (have hfz40_1 := blk_frozen BK461.out 1); (have hfz40_2 := blk_frozen BK461.out 2); (have hfz40_3 := blk_frozen BK461.out 3); go_wp2; (repeat (go_quiet (fail); try go_wp2)); go_ret; (exact ⟨by first | rfl | (simp [errW_none, errW_some] <;> rfl) | (simp [*, errW_none, errW_some] <;> rfl), by repeat (first | (with_reducible first | exact HB.out | apply ba_ | apply bn_ | apply bd_ | refine below_set ?_ GE461.out) | exact HB.out)⟩)
         ·(rw [if_neg c39] at H); (have c39b0 : (a1_0 == 0) = false := beq_eq_false_iff_ne.mpr c39); (have c39b1 : (a1_0 != 0) = true := bne_iff_ne.mpr c39); (by_cases c41 : (wrap64 ((l0.length : Int) / a2)) > 0)
          ·(rw [if_pos c41] at H); (have c41b0 : decide (0 < (wrap64 ((l0.length : Int) / a2))) = true := decide_eq_true c41); clear c41; (obtain ⟨ji42, hji42⟩ : ∃ j_ : Int, (wrap64 ((l0.length : Int) - a2)) = j_ := ⟨_, rfl⟩)
           replace H : (if 0 ≤ (ji42) then (if (ji42) < (l0.length : Int) then ((spec_l30Match.f a1_0 ((rd_T24 l0 (ji42)).f2)).bind fun t469 => (some t469)) else (none)) else (none)) = some r := by first | (rw [hji42] at H; exact H) | (simp only [hji42] at H ⊢; exact H)
           (have hji42w : (IntKind.i64.wrap ((l0.length : Int) - a2)) = ji42 := (i64_w _).trans hji42); (by_cases c43 : 0 ≤ (ji42))
           ·(rw [if_pos c43] at H); (have c43b0 : decide (0 ≤ (ji42)) = true := decide_eq_true c43); clear c43; (by_cases c44 : (ji42) < (l0.length : Int))
            ·(rw [if_pos c44] at H); (have c44b0 : decide ((ji42) < (l0.length : Int)) = true := decide_eq_true c44); clear c44; (replace H := Option.bind_eq_some_iff.mp H); (obtain ⟨t469, A450, H⟩ := H); (try dsimp only at H); (have A45 := A0_ A450); clear A450; (obtain rfl := Option.some.inj H); (have hcz46_0 : wc.cell? ⟨gb461, 0, none⟩ = some (.int .i64 a1_0) := (blk_cell BK461.out 0).trans rfl); (have hcz46_1 : wc.cell? ⟨gb461, 1, none⟩ = some (.int .i64 a1_1) := (blk_cell BK461.out 1).trans rfl); (have hcz46_2 : wc.cell? ⟨gb461, 2, none⟩ = some (.int .i64 a1_2) := (blk_cell BK461.out 2).trans rfl); (have hcz46_3 : wc.cell? ⟨gb461, 3, none⟩ = some (.int .i64 a1_3) := (blk_cell BK461.out 3).trans rfl); (have hfz46_0 := blk_frozen BK461.out 0); (have hfz46_1 := blk_frozen BK461.out 1); (have hfz46_2 := blk_frozen BK461.out 2); (have hfz46_3 := blk_frozen BK461.out 3); (have p468 : 0 ≤ ((ji42) : Int) := of_decide_eq_true (by first | (with_reducible assumption) | assumption)); (have q468 : (ji42) < (l0.length : Int) := of_decide_eq_true (by first | (with_reducible assumption) | assumption)); (obtain ⟨ad468, e468, hx468_0, hx468_1, hx468_2, hx468_3⟩ := at_T24 HR0.out (ji42) p468 q468); (cases e468); (replace hx468_0 := (HB.out.cell (World.block_lt_of_cell? w _ hx468_0)).trans hx468_0); (replace hx468_1 := (HB.out.cell (World.block_lt_of_cell? w _ hx468_1)).trans hx468_1); (replace hx468_2 := (HB.out.cell (World.block_lt_of_cell? w _ hx468_2)).trans hx468_2); (replace hx468_3 := (HB.out.cell (World.block_lt_of_cell? w _ hx468_3)).trans hx468_3); (replace p468 := eq_true p468); (replace q468 := eq_true q468); (go_wp2_with (first | (go_at_call 76; (with_reducible refine (spec_l30Match.calls a1_0 ((rd_T24 l0 (ji42)).f2) t469 _ A45.out).mono ?_); rintro e w' ⟨rfl, ⟨nd, rfl⟩⟩; (try first | exact ⟨rfl, _, World.drewN_drewN _ _ _⟩ | exact ⟨rfl, _, Eq.trans (World.drewN_drewN _ _ _) (congrArg (World.drewN _) (Nat.add_assoc _ _ _))⟩)))); (repeat (go_quiet (first | (go_at_call 76; (with_reducible refine (spec_l30Match.calls a1_0 ((rd_T24 l0 (ji42)).f2) t469 _ A45.out).mono ?_); rintro e w' ⟨rfl, ⟨nd, rfl⟩⟩; (try first | exact ⟨rfl, _, World.drewN_drewN _ _ _⟩ | exact ⟨rfl, _, Eq.trans (World.drewN_drewN _ _ _) (congrArg (World.drewN _) (Nat.add_assoc _ _ _))⟩))); try go_wp2_with (first | (go_at_call 76; (with_reducible refine (spec_l30Match.calls a1_0 ((rd_T24 l0 (ji42)).f2) t469 _ A45.out).mono ?_); rintro e w' ⟨rfl, ⟨nd, rfl⟩⟩; (try first | exact ⟨rfl, _, World.drewN_drewN _ _ _⟩ | exact ⟨rfl, _, Eq.trans (World.drewN_drewN _ _ _) (congrArg (World.drewN _) (Nat.add_assoc _ _ _))⟩))))); go_ret; (exact ⟨by first | rfl | (simp [errW_none, errW_some] <;> rfl) | (simp only [← hji42]; first | rfl | (simp [errW_none, errW_some] <;> rfl)) | (simp [*, errW_none, errW_some] <;> rfl), by repeat (first | (with_reducible first | exact HB.out | apply ba_ | apply bn_ | apply bd_ | refine below_set ?_ GE461.out) | exact HB.out)⟩)
            ·(rw [if_neg c44] at H); (exact absurd H (by simp))
           ·(rw [if_neg c43] at H); (exact absurd H (by simp))
          ·(rw [if_neg c41] at H); (have c41b0 : decide (0 < (wrap64 ((l0.length : Int) / a2))) = false := decide_eq_false c41); clear c41; (obtain rfl := Option.some.inj H); (have hcz47_0 : wc.cell? ⟨gb461, 0, none⟩ = some (.int .i64 a1_0) := (blk_cell BK461.out 0).trans rfl); (have hcz47_1 : wc.cell? ⟨gb461, 1, none⟩ = some (.int .i64 a1_1) := (blk_cell BK461.out 1).trans rfl); (have hcz47_2 : wc.cell? ⟨gb461, 2, none⟩ = some (.int .i64 a1_2) := (blk_cell BK461.out 2).trans rfl); (have hcz47_3 : wc.cell? ⟨gb461, 3, none⟩ = some (.int .i64 a1_3) := (blk_cell BK461.out 3).trans rfl); (have hfz47_0 := blk_frozen BK461.out 0); (have hfz47_1 := blk_frozen BK461.out 1); (have hfz47_2 := blk_frozen BK461.out 2); (have hfz47_3 := blk_frozen BK461.out 3); go_wp2; (repeat (go_quiet (fail); try go_wp2)); go_ret; (exact ⟨by first | rfl | (simp [errW_none, errW_some] <;> rfl) | (simp [*, errW_none, errW_some] <;> rfl), by repeat (first | (with_reducible first | exact HB.out | apply ba_ | apply bn_ | apply bd_ | refine below_set ?_ GE461.out) | exact HB.out)⟩)
        ·(rw [if_neg c38] at H); (have c38b0 : ((wrap64 ((l0.length : Int) / a2)) == 0) = false := beq_eq_false_iff_ne.mpr c38); (have c38b1 : ((wrap64 ((l0.length : Int) / a2)) != 0) = true := bne_iff_ne.mpr c38); (by_cases c48 : (wrap64 ((l0.length : Int) / a2)) > 0)
         ·(rw [if_pos c48] at H); (have c48b0 : decide (0 < (wrap64 ((l0.length : Int) / a2))) = true := decide_eq_true c48); clear c48; (obtain ⟨ji49, hji49⟩ : ∃ j_ : Int, (wrap64 ((l0.length : Int) - a2)) = j_ := ⟨_, rfl⟩)
          replace H : (if 0 ≤ (ji49) then (if (ji49) < (l0.length : Int) then ((spec_l30Match.f a1_0 ((rd_T24 l0 (ji49)).f2)).bind fun t471 => (some t471)) else (none)) else (none)) = some r := by first | (rw [hji49] at H; exact H) | (simp only [hji49] at H ⊢; exact H)
          (have hji49w : (IntKind.i64.wrap ((l0.length : Int) - a2)) = ji49 := (i64_w _).trans hji49); (by_cases c50 : 0 ≤ (ji49))
          ·(rw [if_pos c50] at H); (have c50b0 : decide (0 ≤ (ji49)) = true := decide_eq_true c50); clear c50; (by_cases c51 : (ji49) < (l0.length : Int))
           ·(rw [if_pos c51] at H); (have c51b0 : decide ((ji49) < (l0.length : Int)) = true := decide_eq_true c51); clear c51; (replace H := Option.bind_eq_some_iff.mp H); (obtain ⟨t471, A520, H⟩ := H); (try dsimp only at H); (have A52 := A0_ A520); clear A520; (obtain rfl := Option.some.inj H); (have hcz53_0 : wc.cell? ⟨gb461, 0, none⟩ = some (.int .i64 a1_0) := (blk_cell BK461.out 0).trans rfl); (have hcz53_1 : wc.cell? ⟨gb461, 1, none⟩ = some (.int .i64 a1_1) := (blk_cell BK461.out 1).trans rfl); (have hcz53_2 : wc.cell? ⟨gb461, 2, none⟩ = some (.int .i64 a1_2) := (blk_cell BK461.out 2).trans rfl); (have hcz53_3 : wc.cell? ⟨gb461, 3, none⟩ = some (.int .i64 a1_3) := (blk_cell BK461.out 3).trans rfl); (have hfz53_0 := blk_frozen BK461.out 0); (have hfz53_1 := blk_frozen BK461.out 1); (have hfz53_2 := blk_frozen BK461.out 2); (have hfz53_3 := blk_frozen BK461.out 3); (have p470 : 0 ≤ ((ji49) : Int) := of_decide_eq_true (by first | (with_reducible assumption) | assumption)); (have q470 : (ji49) < (l0.length : Int) := of_decide_eq_true (by first | (with_reducible assumption) | assumption)); (obtain ⟨ad470, e470, hx470_0, hx470_1, hx470_2, hx470_3⟩ := at_T24 HR0.out (ji49) p470 q470); (cases e470); (replace hx470_0 := (HB.out.cell (World.block_lt_of_cell? w _ hx470_0)).trans hx470_0); (replace hx470_1 := (HB.out.cell (World.block_lt_of_cell? w _ hx470_1)).trans hx470_1); (replace hx470_2 := (HB.out.cell (World.block_lt_of_cell? w _ hx470_2)).trans hx470_2); (replace hx470_3 := (HB.out.cell (World.block_lt_of_cell? w _ hx470_3)).trans hx470_3); (replace p470 := eq_true p470); (replace q470 := eq_true q470); (go_wp2_with (first | (go_at_call 76; (with_reducible refine (spec_l30Match.calls a1_0 ((rd_T24 l0 (ji49)).f2) t471 _ A52.out).mono ?_); rintro e w' ⟨rfl, ⟨nd, rfl⟩⟩; (try first | exact ⟨rfl, _, World.drewN_drewN _ _ _⟩ | exact ⟨rfl, _, Eq.trans (World.drewN_drewN _ _ _) (congrArg (World.drewN _) (Nat.add_assoc _ _ _))⟩)))); (repeat (go_quiet (first | (go_at_call 76; (with_reducible refine (spec_l30Match.calls a1_0 ((rd_T24 l0 (ji49)).f2) t471 _ A52.out).mono ?_); rintro e w' ⟨rfl, ⟨nd, rfl⟩⟩; (try first | exact ⟨rfl, _, World.drewN_drewN _ _ _⟩ | exact ⟨rfl, _, Eq.trans (World.drewN_drewN _ _ _) (congrArg (World.drewN _) (Nat.add_assoc _ _ _))⟩))); try go_wp2_with (first | (go_at_call 76; (with_reducible refine (spec_l30Match.calls a1_0 ((rd_T24 l0 (ji49)).f2) t471 _ A52.out).mono ?_); rintro e w' ⟨rfl, ⟨nd, rfl⟩⟩; (try first | exact ⟨rfl, _, World.drewN_drewN _ _ _⟩ | exact ⟨rfl, _, Eq.trans (World.drewN_drewN _ _ _) (congrArg (World.drewN _) (Nat.add_assoc _ _ _))⟩))))); go_ret; (exact ⟨by first | rfl | (simp [errW_none, errW_some] <;> rfl) | (simp only [← hji49]; first | rfl | (simp [errW_none, errW_some] <;> rfl)) | (simp [*, errW_none, errW_some] <;> rfl), by repeat (first | (with_reducible first | exact HB.out | apply ba_ | apply bn_ | apply bd_ | refine below_set ?_ GE461.out) | exact HB.out)⟩)
           ·(rw [if_neg c51] at H); (exact absurd H (by simp))
          ·(rw [if_neg c50] at H); (exact absurd H (by simp))
         ·(rw [if_neg c48] at H); (have c48b0 : decide (0 < (wrap64 ((l0.length : Int) / a2))) = false := decide_eq_false c48); clear c48; (obtain rfl := Option.some.inj H); (have hcz54_0 : wc.cell? ⟨gb461, 0, none⟩ = some (.int .i64 a1_0) := (blk_cell BK461.out 0).trans rfl); (have hcz54_1 : wc.cell? ⟨gb461, 1, none⟩ = some (.int .i64 a1_1) := (blk_cell BK461.out 1).trans rfl); (have hcz54_2 : wc.cell? ⟨gb461, 2, none⟩ = some (.int .i64 a1_2) := (blk_cell BK461.out 2).trans rfl); (have hcz54_3 : wc.cell? ⟨gb461, 3, none⟩ = some (.int .i64 a1_3) := (blk_cell BK461.out 3).trans rfl); (have hfz54_0 := blk_frozen BK461.out 0); (have hfz54_1 := blk_frozen BK461.out 1); (have hfz54_2 := blk_frozen BK461.out 2); (have hfz54_3 := blk_frozen BK461.out 3); go_wp2; (repeat (go_quiet (fail); try go_wp2)); go_ret; (exact ⟨by first | rfl | (simp [errW_none, errW_some] <;> rfl) | (simp [*, errW_none, errW_some] <;> rfl), by repeat (first | (with_reducible first | exact HB.out | apply ba_ | apply bn_ | apply bd_ | refine below_set ?_ GE461.out) | exact HB.out)⟩)
      ·(rw [if_neg c13] at H); (have c13b0 : (a1_3 == 0) = false := beq_eq_false_iff_ne.mpr c13); (have c13b1 : (a1_3 != 0) = true := bne_iff_ne.mpr c13); (obtain rfl := Option.some.inj H); (have hcz55_0 : wc.cell? ⟨gb461, 0, none⟩ = some (.int .i64 a1_0) := (blk_cell BK461.out 0).trans rfl); (have hcz55_1 : wc.cell? ⟨gb461, 1, none⟩ = some (.int .i64 a1_1) := (blk_cell BK461.out 1).trans rfl); (have hcz55_2 : wc.cell? ⟨gb461, 2, none⟩ = some (.int .i64 a1_2) := (blk_cell BK461.out 2).trans rfl); (have hcz55_3 : wc.cell? ⟨gb461, 3, none⟩ = some (.int .i64 a1_3) := (blk_cell BK461.out 3).trans rfl); (have hfz55_0 := blk_frozen BK461.out 0); (have hfz55_1 := blk_frozen BK461.out 1); (have hfz55_2 := blk_frozen BK461.out 2); (have hfz55_3 := blk_frozen BK461.out 3); go_wp2; (repeat (go_quiet (fail); try go_wp2)); go_ret; (exact ⟨by first | rfl | (simp [errW_none, errW_some] <;> rfl) | (simp [*, errW_none, errW_some] <;> rfl), by repeat (first | (with_reducible first | exact HB.out | apply ba_ | apply bn_ | apply bd_ | refine below_set ?_ GE461.out) | exact HB.out)⟩)
     ·(rw [if_neg c12] at H); (have c12b0 : (((l0.length : Int) % a2) == 0) = false := beq_eq_false_iff_ne.mpr c12); (have c12b1 : (((l0.length : Int) % a2) != 0) = true := bne_iff_ne.mpr c12); (by_cases c56 : ((l0.length : Int) % a2) > 0)
      ·(rw [if_pos c56] at H); (have c56b0 : decide (0 < ((l0.length : Int) % a2)) = true := decide_eq_true c56); clear c56; (obtain ⟨ji57, hji57⟩ : ∃ j_ : Int, (wrap64 ((l0.length : Int) - 1)) = j_ := ⟨_, rfl⟩)
       replace H : (if 0 ≤ (ji57) then (if (ji57) < (l0.length : Int) then ((spec_l30Match.f a1_3 ((rd_T24 l0 (ji57)).f1)).bind fun t473 => (if t473 = true then (if (wrap64 ((l0.length : Int) / a2)) = 0 then (if a1_0 = 0 then (some true) else (if (wrap64 ((l0.length : Int) / a2)) > 0 then (if 0 ≤ (wrap64 ((l0.length : Int) - a2)) then (if (wrap64 ((l0.length : Int) - a2)) < (l0.length : Int) then ((spec_l30Match.f a1_0 ((rd_T24 l0 (wrap64 ((l0.length : Int) - a2))).f2)).bind fun t475 => (some t475)) else (none)) else (none)) else (some false))) else (if (wrap64 ((l0.length : Int) / a2)) > 0 then (if 0 ≤ (wrap64 ((l0.length : Int) - a2)) then (if (wrap64 ((l0.length : Int) - a2)) < (l0.length : Int) then ((spec_l30Match.f a1_0 ((rd_T24 l0 (wrap64 ((l0.length : Int) - a2))).f2)).bind fun t477 => (some t477)) else (none)) else (none)) else (some false))) else (some false))) else (none)) else (none)) = some r := by first | (rw [hji57] at H; exact H) | (simp only [hji57] at H ⊢; exact H)
       (have hji57w : (IntKind.i64.wrap ((l0.length : Int) - 1)) = ji57 := (i64_w _).trans hji57); (by_cases c58 : 0 ≤ (ji57))
       ·(rw [if_pos c58] at H); (have c58b0 : decide (0 ≤ (ji57)) = true := decide_eq_true c58); clear c58; (by_cases c59 : (ji57) < (l0.length : Int))
        ·(rw [if_pos c59] at H); (have c59b0 : decide ((ji57) < (l0.length : Int)) = true := decide_eq_true c59); clear c59; (replace H := Option.bind_eq_some_iff.mp H); (obtain ⟨t473, A600, H⟩ := H); (try dsimp only at H); (have A60 := A0_ A600); clear A600; (by_cases c61 : t473 = true)
         ·subst c61; (have H1 := H); (rw [if_pos rfl] at H1); clear H; (have H := H1); clear H1; (by_cases c62 : (wrap64 ((l0.length : Int) / a2)) = 0)
          ·(rw [if_pos c62] at H); (have c62b0 : ((wrap64 ((l0.length : Int) / a2)) == 0) = true := beq_iff_eq.mpr c62); (have c62b1 : ((wrap64 ((l0.length : Int) / a2)) != 0) = false := bne_eq_false_iff_eq.mpr c62); clear c62; (by_cases c63 : a1_0 = 0)
           ·(rw [if_pos c63] at H); (have c63b0 : (a1_0 == 0) = true := beq_iff_eq.mpr c63); (have c63b1 : (a1_0 != 0) = false := bne_eq_false_iff_eq.mpr c63); clear c63; (obtain rfl := Option.some.inj H); (have hcz64_0 : wc.cell? ⟨gb461, 0, none⟩ = some (.int .i64 a1_0) := (blk_cell BK461.out 0).trans rfl); (have hcz64_1 : wc.cell? ⟨gb461, 1, none⟩ = some (.int .i64 a1_1) := (blk_cell BK461.out 1).trans rfl); (have hcz64_2 : wc.cell? ⟨gb461, 2, none⟩ = some (.int .i64 a1_2) := (blk_cell BK461.out 2).trans rfl); (have hcz64_3 : wc.cell? ⟨gb461, 3, none⟩ = some (.int .i64 a1_3) := (blk_cell BK461.out 3).trans rfl); (have hfz64_0 := blk_frozen BK461.out 0); (have hfz64_1 := blk_frozen BK461.out 1); (have hfz64_2 := blk_frozen BK461.out 2); (have hfz64_3 := blk_frozen BK461.out 3); (have p472 : 0 ≤ ((ji57) : Int) := of_decide_eq_true (by first | (with_reducible assumption) | assumption)); (have q472 : (ji57) < (l0.length : Int) := of_decide_eq_true (by first | (with_reducible assumption) | assumption)); (obtain ⟨ad472, e472, hx472_0, hx472_1, hx472_2, hx472_3⟩ := at_T24 HR0.out (ji57) p472 q472); (cases e472); (replace hx472_0 := (HB.out.cell (World.block_lt_of_cell? w _ hx472_0)).trans hx472_0); (replace hx472_1 := (HB.out.cell (World.block_lt_of_cell? w _ hx472_1)).trans hx472_1); (replace hx472_2 := (HB.out.cell (World.block_lt_of_cell? w _ hx472_2)).trans hx472_2); (replace hx472_3 := (HB.out.cell (World.block_lt_of_cell? w _ hx472_3)).trans hx472_3); (replace p472 := eq_true p472); (replace q472 := eq_true q472); (go_wp2_with (first | (go_at_call 76; (with_reducible refine (spec_l30Match.calls a1_3 ((rd_T24 l0 (ji57)).f1) true _ A60.out).mono ?_); rintro e w' ⟨rfl, ⟨nd, rfl⟩⟩; (try first | exact ⟨rfl, _, World.drewN_drewN _ _ _⟩ | exact ⟨rfl, _, Eq.trans (World.drewN_drewN _ _ _) (congrArg (World.drewN _) (Nat.add_assoc _ _ _))⟩)))); (repeat (go_quiet (first | (go_at_call 76; (with_reducible refine (spec_l30Match.calls a1_3 ((rd_T24 l0 (ji57)).f1) true _ A60.out).mono ?_); rintro e w' ⟨rfl, ⟨nd, rfl⟩⟩; (try first | exact ⟨rfl, _, World.drewN_drewN _ _ _⟩ | exact ⟨rfl, _, Eq.trans (World.drewN_drewN _ _ _) (congrArg (World.drewN _) (Nat.add_assoc _ _ _))⟩))); try go_wp2_with (first | (go_at_call 76; (with_reducible refine (spec_l30Match.calls a1_3 ((rd_T24 l0 (ji57)).f1) true _ A60.out).mono ?_); rintro e w' ⟨rfl, ⟨nd, rfl⟩⟩; (try first | exact ⟨rfl, _, World.drewN_drewN _ _ _⟩ | exact ⟨rfl, _, Eq.trans (World.drewN_drewN _ _ _) (congrArg (World.drewN _) (Nat.add_assoc _ _ _))⟩))))); go_ret; (exact ⟨by first | rfl | (simp [errW_none, errW_some] <;> rfl) | (simp only [← hji57]; first | rfl | (simp [errW_none, errW_some] <;> rfl)) | (simp [*, errW_none, errW_some] <;> rfl), by repeat (first | (with_reducible first | exact HB.out | apply ba_ | apply bn_ | apply bd_ | refine below_set ?_ GE461.out) | exact HB.out)⟩)
           ·(rw [if_neg c63] at H); (have c63b0 : (a1_0 == 0) = false := beq_eq_false_iff_ne.mpr c63); (have c63b1 : (a1_0 != 0) = true := bne_iff_ne.mpr c63); (by_cases c65 : (wrap64 ((l0.length : Int) / a2)) > 0)
            ·(rw [if_pos c65] at H); (have c65b0 : decide (0 < (wrap64 ((l0.length : Int) / a2))) = true := decide_eq_true c65); clear c65; (obtain ⟨ji66, hji66⟩ : ∃ j_ : Int, (wrap64 ((l0.length : Int) - a2)) = j_ := ⟨_, rfl⟩)
             replace H : (if 0 ≤ (ji66) then (if (ji66) < (l0.length : Int) then ((spec_l30Match.f a1_0 ((rd_T24 l0 (ji66)).f2)).bind fun t475 => (some t475)) else (none)) else (none)) = some r := by first | (rw [hji66] at H; exact H) | (simp only [hji66] at H ⊢; exact H)
             ((try rw [hji66] at A60)); (have hji66w : (IntKind.i64.wrap ((l0.length : Int) - a2)) = ji66 := (i64_w _).trans hji66); (by_cases c67 : 0 ≤ (ji66))
             ·(rw [if_pos c67] at H); (have c67b0 : decide (0 ≤ (ji66)) = true := decide_eq_true c67); clear c67; (by_cases c68 : (ji66) < (l0.length : Int))
              ·(rw [if_pos c68] at H); (have c68b0 : decide ((ji66) < (l0.length : Int)) = true := decide_eq_true c68); clear c68; (replace H := Option.bind_eq_some_iff.mp H); (obtain ⟨t475, A690, H⟩ := H); (try dsimp only at H); (have A69 := A0_ A690); clear A690; (obtain rfl := Option.some.inj H); (have hcz70_0 : wc.cell? ⟨gb461, 0, none⟩ = some (.int .i64 a1_0) := (blk_cell BK461.out 0).trans rfl); (have hcz70_1 : wc.cell? ⟨gb461, 1, none⟩ = some (.int .i64 a1_1) := (blk_cell BK461.out 1).trans rfl); (have hcz70_2 : wc.cell? ⟨gb461, 2, none⟩ = some (.int .i64 a1_2) := (blk_cell BK461.out 2).trans rfl); (have hcz70_3 : wc.cell? ⟨gb461, 3, none⟩ = some (.int .i64 a1_3) := (blk_cell BK461.out 3).trans rfl); (have hfz70_0 := blk_frozen BK461.out 0); (have hfz70_1 := blk_frozen BK461.out 1); (have hfz70_2 := blk_frozen BK461.out 2); (have hfz70_3 := blk_frozen BK461.out 3); (have p472 : 0 ≤ ((ji57) : Int) := of_decide_eq_true (by first | (with_reducible assumption) | assumption)); (have q472 : (ji57) < (l0.length : Int) := of_decide_eq_true (by first | (with_reducible assumption) | assumption)); (obtain ⟨ad472, e472, hx472_0, hx472_1, hx472_2, hx472_3⟩ := at_T24 HR0.out (ji57) p472 q472); (cases e472); (replace hx472_0 := (HB.out.cell (World.block_lt_of_cell? w _ hx472_0)).trans hx472_0); (replace hx472_1 := (HB.out.cell (World.block_lt_of_cell? w _ hx472_1)).trans hx472_1); (replace hx472_2 := (HB.out.cell (World.block_lt_of_cell? w _ hx472_2)).trans hx472_2); (replace hx472_3 := (HB.out.cell (World.block_lt_of_cell? w _ hx472_3)).trans hx472_3); (replace p472 := eq_true p472); (replace q472 := eq_true q472); (go_wp2_with (first | (go_at_call 76; (with_reducible refine (spec_l30Match.calls a1_3 ((rd_T24 l0 (ji57)).f1) true _ A60.out).mono ?_); rintro e w' ⟨rfl, ⟨nd, rfl⟩⟩; (try first | exact ⟨rfl, _, World.drewN_drewN _ _ _⟩ | exact ⟨rfl, _, Eq.trans (World.drewN_drewN _ _ _) (congrArg (World.drewN _) (Nat.add_assoc _ _ _))⟩); have p474 : 0 ≤ ((ji66) : Int) := of_decide_eq_true (by first | (with_reducible assumption) | assumption); have q474 : (ji66) < (l0.length : Int) := of_decide_eq_true (by first | (with_reducible assumption) | assumption); obtain ⟨ad474, e474, hx474_0, hx474_1, hx474_2, hx474_3⟩ := at_T24 HR0.out (ji66) p474 q474; obtain rfl : ad472 = ad474 := (by injection e474); replace hx474_0 := (HB.out.cell (World.block_lt_of_cell? w _ hx474_0)).trans hx474_0; replace hx474_1 := (HB.out.cell (World.block_lt_of_cell? w _ hx474_1)).trans hx474_1; replace hx474_2 := (HB.out.cell (World.block_lt_of_cell? w _ hx474_2)).trans hx474_2; replace hx474_3 := (HB.out.cell (World.block_lt_of_cell? w _ hx474_3)).trans hx474_3; replace p474 := eq_true p474; replace q474 := eq_true q474) | (go_at_call 76; (with_reducible refine (spec_l30Match.calls a1_0 ((rd_T24 l0 (ji66)).f2) t475 _ A69.out).mono ?_); rintro e w' ⟨rfl, ⟨nd, rfl⟩⟩; (try first | exact ⟨rfl, _, World.drewN_drewN _ _ _⟩ | exact ⟨rfl, _, Eq.trans (World.drewN_drewN _ _ _) (congrArg (World.drewN _) (Nat.add_assoc _ _ _))⟩)))); (repeat (go_quiet (first | (go_at_call 76; (with_reducible refine (spec_l30Match.calls a1_3 ((rd_T24 l0 (ji57)).f1) true _ A60.out).mono ?_); rintro e w' ⟨rfl, ⟨nd, rfl⟩⟩; (try first | exact ⟨rfl, _, World.drewN_drewN _ _ _⟩ | exact ⟨rfl, _, Eq.trans (World.drewN_drewN _ _ _) (congrArg (World.drewN _) (Nat.add_assoc _ _ _))⟩); have p474 : 0 ≤ ((ji66) : Int) := of_decide_eq_true (by first | (with_reducible assumption) | assumption); have q474 : (ji66) < (l0.length : Int) := of_decide_eq_true (by first | (with_reducible assumption) | assumption); obtain ⟨ad474, e474, hx474_0, hx474_1, hx474_2, hx474_3⟩ := at_T24 HR0.out (ji66) p474 q474; obtain rfl : ad472 = ad474 := (by injection e474); replace hx474_0 := (HB.out.cell (World.block_lt_of_cell? w _ hx474_0)).trans hx474_0; replace hx474_1 := (HB.out.cell (World.block_lt_of_cell? w _ hx474_1)).trans hx474_1; replace hx474_2 := (HB.out.cell (World.block_lt_of_cell? w _ hx474_2)).trans hx474_2; replace hx474_3 := (HB.out.cell (World.block_lt_of_cell? w _ hx474_3)).trans hx474_3; replace p474 := eq_true p474; replace q474 := eq_true q474) | (go_at_call 76; (with_reducible refine (spec_l30Match.calls a1_0 ((rd_T24 l0 (ji66)).f2) t475 _ A69.out).mono ?_); rintro e w' ⟨rfl, ⟨nd, rfl⟩⟩; (try first | exact ⟨rfl, _, World.drewN_drewN _ _ _⟩ | exact ⟨rfl, _, Eq.trans (World.drewN_drewN _ _ _) (congrArg (World.drewN _) (Nat.add_assoc _ _ _))⟩))); try go_wp2_with (first | (go_at_call 76; (with_reducible refine (spec_l30Match.calls a1_3 ((rd_T24 l0 (ji57)).f1) true _ A60.out).mono ?_); rintro e w' ⟨rfl, ⟨nd, rfl⟩⟩; (try first | exact ⟨rfl, _, World.drewN_drewN _ _ _⟩ | exact ⟨rfl, _, Eq.trans (World.drewN_drewN _ _ _) (congrArg (World.drewN _) (Nat.add_assoc _ _ _))⟩); have p474 : 0 ≤ ((ji66) : Int) := of_decide_eq_true (by first | (with_reducible assumption) | assumption); have q474 : (ji66) < (l0.length : Int) := of_decide_eq_true (by first | (with_reducible assumption) | assumption); obtain ⟨ad474, e474, hx474_0, hx474_1, hx474_2, hx474_3⟩ := at_T24 HR0.out (ji66) p474 q474; obtain rfl : ad472 = ad474 := (by injection e474); replace hx474_0 := (HB.out.cell (World.block_lt_of_cell? w _ hx474_0)).trans hx474_0; replace hx474_1 := (HB.out.cell (World.block_lt_of_cell? w _ hx474_1)).trans hx474_1; replace hx474_2 := (HB.out.cell (World.block_lt_of_cell? w _ hx474_2)).trans hx474_2; replace hx474_3 := (HB.out.cell (World.block_lt_of_cell? w _ hx474_3)).trans hx474_3; replace p474 := eq_true p474; replace q474 := eq_true q474) | (go_at_call 76; (with_reducible refine (spec_l30Match.calls a1_0 ((rd_T24 l0 (ji66)).f2) t475 _ A69.out).mono ?_); rintro e w' ⟨rfl, ⟨nd, rfl⟩⟩; (try first | exact ⟨rfl, _, World.drewN_drewN _ _ _⟩ | exact ⟨rfl, _, Eq.trans (World.drewN_drewN _ _ _) (congrArg (World.drewN _) (Nat.add_assoc _ _ _))⟩))))); go_ret; (exact ⟨by first | rfl | (simp [errW_none, errW_some] <;> rfl) | (simp only [← hji57, ← hji66]; first | rfl | (simp [errW_none, errW_some] <;> rfl)) | (simp [*, errW_none, errW_some] <;> rfl), by repeat (first | (with_reducible first | exact HB.out | apply ba_ | apply bn_ | apply bd_ | refine below_set ?_ GE461.out) | exact HB.out)⟩)
              ·(rw [if_neg c68] at H); (exact absurd H (by simp))
             ·(rw [if_neg c67] at H); (exact absurd H (by simp))
            ·(rw [if_neg c65] at H); (have c65b0 : decide (0 < (wrap64 ((l0.length : Int) / a2))) = false := decide_eq_false c65); clear c65; (obtain rfl := Option.some.inj H); (have hcz71_0 : wc.cell? ⟨gb461, 0, none⟩ = some (.int .i64 a1_0) := (blk_cell BK461.out 0).trans rfl); (have hcz71_1 : wc.cell? ⟨gb461, 1, none⟩ = some (.int .i64 a1_1) := (blk_cell BK461.out 1).trans rfl); (have hcz71_2 : wc.cell? ⟨gb461, 2, none⟩ = some (.int .i64 a1_2) := (blk_cell BK461.out 2).trans rfl); (have hcz71_3 : wc.cell? ⟨gb461, 3, none⟩ = some (.int .i64 a1_3) := (blk_cell BK461.out 3).trans rfl); (have hfz71_0 := blk_frozen BK461.out 0); (have hfz71_1 := blk_frozen BK461.out 1); (have hfz71_2 := blk_frozen BK461.out 2); (have hfz71_3 := blk_frozen BK461.out 3); (have p472 : 0 ≤ ((ji57) : Int) := of_decide_eq_true (by first | (with_reducible assumption) | assumption)); (have q472 : (ji57) < (l0.length : Int) := of_decide_eq_true (by first | (with_reducible assumption) | assumption)); (obtain ⟨ad472, e472, hx472_0, hx472_1, hx472_2, hx472_3⟩ := at_T24 HR0.out (ji57) p472 q472); (cases e472); (replace hx472_0 := (HB.out.cell (World.block_lt_of_cell? w _ hx472_0)).trans hx472_0); (replace hx472_1 := (HB.out.cell (World.block_lt_of_cell? w _ hx472_1)).trans hx472_1); (replace hx472_2 := (HB.out.cell (World.block_lt_of_cell? w _ hx472_2)).trans hx472_2); (replace hx472_3 := (HB.out.cell (World.block_lt_of_cell? w _ hx472_3)).trans hx472_3); (replace p472 := eq_true p472); (replace q472 := eq_true q472); (go_wp2_with (first | (go_at_call 76; (with_reducible refine (spec_l30Match.calls a1_3 ((rd_T24 l0 (ji57)).f1) true _ A60.out).mono ?_); rintro e w' ⟨rfl, ⟨nd, rfl⟩⟩; (try first | exact ⟨rfl, _, World.drewN_drewN _ _ _⟩ | exact ⟨rfl, _, Eq.trans (World.drewN_drewN _ _ _) (congrArg (World.drewN _) (Nat.add_assoc _ _ _))⟩)))); (repeat (go_quiet (first | (go_at_call 76; (with_reducible refine (spec_l30Match.calls a1_3 ((rd_T24 l0 (ji57)).f1) true _ A60.out).mono ?_); rintro e w' ⟨rfl, ⟨nd, rfl⟩⟩; (try first | exact ⟨rfl, _, World.drewN_drewN _ _ _⟩ | exact ⟨rfl, _, Eq.trans (World.drewN_drewN _ _ _) (congrArg (World.drewN _) (Nat.add_assoc _ _ _))⟩))); try go_wp2_with (first | (go_at_call 76; (with_reducible refine (spec_l30Match.calls a1_3 ((rd_T24 l0 (ji57)).f1) true _ A60.out).mono ?_); rintro e w' ⟨rfl, ⟨nd, rfl⟩⟩; (try first | exact ⟨rfl, _, World.drewN_drewN _ _ _⟩ | exact ⟨rfl, _, Eq.trans (World.drewN_drewN _ _ _) (congrArg (World.drewN _) (Nat.add_assoc _ _ _))⟩))))); go_ret; (exact ⟨by first | rfl | (simp [errW_none, errW_some] <;> rfl) | (simp only [← hji57]; first | rfl | (simp [errW_none, errW_some] <;> rfl)) | (simp [*, errW_none, errW_some] <;> rfl), by repeat (first | (with_reducible first | exact HB.out | apply ba_ | apply bn_ | apply bd_ | refine below_set ?_ GE461.out) | exact HB.out)⟩)
          ·(rw [if_neg c62] at H); (have c62b0 : ((wrap64 ((l0.length : Int) / a2)) == 0) = false := beq_eq_false_iff_ne.mpr c62); (have c62b1 : ((wrap64 ((l0.length : Int) / a2)) != 0) = true := bne_iff_ne.mpr c62); (by_cases c72 : (wrap64 ((l0.length : Int) / a2)) > 0)
           ·(rw [if_pos c72] at H); (have c72b0 : decide (0 < (wrap64 ((l0.length : Int) / a2))) = true := decide_eq_true c72); clear c72; (obtain ⟨ji73, hji73⟩ : ∃ j_ : Int, (wrap64 ((l0.length : Int) - a2)) = j_ := ⟨_, rfl⟩)
            replace H : (if 0 ≤ (ji73) then (if (ji73) < (l0.length : Int) then ((spec_l30Match.f a1_0 ((rd_T24 l0 (ji73)).f2)).bind fun t477 => (some t477)) else (none)) else (none)) = some r := by first | (rw [hji73] at H; exact H) | (simp only [hji73] at H ⊢; exact H)
            ((try rw [hji73] at A60)); (have hji73w : (IntKind.i64.wrap ((l0.length : Int) - a2)) = ji73 := (i64_w _).trans hji73); (by_cases c74 : 0 ≤ (ji73))
            ·(rw [if_pos c74] at H); (have c74b0 : decide (0 ≤ (ji73)) = true := decide_eq_true c74); clear c74; (by_cases c75 : (ji73) < (l0.length : Int))
             ·(rw [if_pos c75] at H); (have c75b0 : decide ((ji73) < (l0.length : Int)) = true := decide_eq_true c75); clear c75; (replace H := Option.bind_eq_some_iff.mp H); (obtain ⟨t477, A760, H⟩ := H); (try dsimp only at H); (have A76 := A0_ A760); clear A760; (obtain rfl := Option.some.inj H); (have hcz77_0 : wc.cell? ⟨gb461, 0, none⟩ = some (.int .i64 a1_0) := (blk_cell BK461.out 0).trans rfl); (have hcz77_1 : wc.cell? ⟨gb461, 1, none⟩ = some (.int .i64 a1_1) := (blk_cell BK461.out 1).trans rfl); (have hcz77_2 : wc.cell? ⟨gb461, 2, none⟩ = some (.int .i64 a1_2) := (blk_cell BK461.out 2).trans rfl); (have hcz77_3 : wc.cell? ⟨gb461, 3, none⟩ = some (.int .i64 a1_3) := (blk_cell BK461.out 3).trans rfl); (have hfz77_0 := blk_frozen BK461.out 0); (have hfz77_1 := blk_frozen BK461.out 1); (have hfz77_2 := blk_frozen BK461.out 2); (have hfz77_3 := blk_frozen BK461.out 3); (have p472 : 0 ≤ ((ji57) : Int) := of_decide_eq_true (by first | (with_reducible assumption) | assumption)); (have q472 : (ji57) < (l0.length : Int) := of_decide_eq_true (by first | (with_reducible assumption) | assumption)); (obtain ⟨ad472, e472, hx472_0, hx472_1, hx472_2, hx472_3⟩ := at_T24 HR0.out (ji57) p472 q472); (cases e472); (replace hx472_0 := (HB.out.cell (World.block_lt_of_cell? w _ hx472_0)).trans hx472_0); (replace hx472_1 := (HB.out.cell (World.block_lt_of_cell? w _ hx472_1)).trans hx472_1); (replace hx472_2 := (HB.out.cell (World.block_lt_of_cell? w _ hx472_2)).trans hx472_2); (replace hx472_3 := (HB.out.cell (World.block_lt_of_cell? w _ hx472_3)).trans hx472_3); (replace p472 := eq_true p472); (replace q472 := eq_true q472); (go_wp2_with (first | (go_at_call 76; (with_reducible refine (spec_l30Match.calls a1_3 ((rd_T24 l0 (ji57)).f1) true _ A60.out).mono ?_); rintro e w' ⟨rfl, ⟨nd, rfl⟩⟩; (try first | exact ⟨rfl, _, World.drewN_drewN _ _ _⟩ | exact ⟨rfl, _, Eq.trans (World.drewN_drewN _ _ _) (congrArg (World.drewN _) (Nat.add_assoc _ _ _))⟩); have p476 : 0 ≤ ((ji73) : Int) := of_decide_eq_true (by first | (with_reducible assumption) | assumption); have q476 : (ji73) < (l0.length : Int) := of_decide_eq_true (by first | (with_reducible assumption) | assumption); obtain ⟨ad476, e476, hx476_0, hx476_1, hx476_2, hx476_3⟩ := at_T24 HR0.out (ji73) p476 q476; obtain rfl : ad472 = ad476 := (by injection e476); replace hx476_0 := (HB.out.cell (World.block_lt_of_cell? w _ hx476_0)).trans hx476_0; replace hx476_1 := (HB.out.cell (World.block_lt_of_cell? w _ hx476_1)).trans hx476_1; replace hx476_2 := (HB.out.cell (World.block_lt_of_cell? w _ hx476_2)).trans hx476_2; replace hx476_3 := (HB.out.cell (World.block_lt_of_cell? w _ hx476_3)).trans hx476_3; replace p476 := eq_true p476; replace q476 := eq_true q476) | (go_at_call 76; (with_reducible refine (spec_l30Match.calls a1_0 ((rd_T24 l0 (ji73)).f2) t477 _ A76.out).mono ?_); rintro e w' ⟨rfl, ⟨nd, rfl⟩⟩; (try first | exact ⟨rfl, _, World.drewN_drewN _ _ _⟩ | exact ⟨rfl, _, Eq.trans (World.drewN_drewN _ _ _) (congrArg (World.drewN _) (Nat.add_assoc _ _ _))⟩)))); (repeat (go_quiet (first | (go_at_call 76; (with_reducible refine (spec_l30Match.calls a1_3 ((rd_T24 l0 (ji57)).f1) true _ A60.out).mono ?_); rintro e w' ⟨rfl, ⟨nd, rfl⟩⟩; (try first | exact ⟨rfl, _, World.drewN_drewN _ _ _⟩ | exact ⟨rfl, _, Eq.trans (World.drewN_drewN _ _ _) (congrArg (World.drewN _) (Nat.add_assoc _ _ _))⟩); have p476 : 0 ≤ ((ji73) : Int) := of_decide_eq_true (by first | (with_reducible assumption) | assumption); have q476 : (ji73) < (l0.length : Int) := of_decide_eq_true (by first | (with_reducible assumption) | assumption); obtain ⟨ad476, e476, hx476_0, hx476_1, hx476_2, hx476_3⟩ := at_T24 HR0.out (ji73) p476 q476; obtain rfl : ad472 = ad476 := (by injection e476); replace hx476_0 := (HB.out.cell (World.block_lt_of_cell? w _ hx476_0)).trans hx476_0; replace hx476_1 := (HB.out.cell (World.block_lt_of_cell? w _ hx476_1)).trans hx476_1; replace hx476_2 := (HB.out.cell (World.block_lt_of_cell? w _ hx476_2)).trans hx476_2; replace hx476_3 := (HB.out.cell (World.block_lt_of_cell? w _ hx476_3)).trans hx476_3; replace p476 := eq_true p476; replace q476 := eq_true q476) | (go_at_call 76; (with_reducible refine (spec_l30Match.calls a1_0 ((rd_T24 l0 (ji73)).f2) t477 _ A76.out).mono ?_); rintro e w' ⟨rfl, ⟨nd, rfl⟩⟩; (try first | exact ⟨rfl, _, World.drewN_drewN _ _ _⟩ | exact ⟨rfl, _, Eq.trans (World.drewN_drewN _ _ _) (congrArg (World.drewN _) (Nat.add_assoc _ _ _))⟩))); try go_wp2_with (first | (go_at_call 76; (with_reducible refine (spec_l30Match.calls a1_3 ((rd_T24 l0 (ji57)).f1) true _ A60.out).mono ?_); rintro e w' ⟨rfl, ⟨nd, rfl⟩⟩; (try first | exact ⟨rfl, _, World.drewN_drewN _ _ _⟩ | exact ⟨rfl, _, Eq.trans (World.drewN_drewN _ _ _) (congrArg (World.drewN _) (Nat.add_assoc _ _ _))⟩); have p476 : 0 ≤ ((ji73) : Int) := of_decide_eq_true (by first | (with_reducible assumption) | assumption); have q476 : (ji73) < (l0.length : Int) := of_decide_eq_true (by first | (with_reducible assumption) | assumption); obtain ⟨ad476, e476, hx476_0, hx476_1, hx476_2, hx476_3⟩ := at_T24 HR0.out (ji73) p476 q476; obtain rfl : ad472 = ad476 := (by injection e476); replace hx476_0 := (HB.out.cell (World.block_lt_of_cell? w _ hx476_0)).trans hx476_0; replace hx476_1 := (HB.out.cell (World.block_lt_of_cell? w _ hx476_1)).trans hx476_1; replace hx476_2 := (HB.out.cell (World.block_lt_of_cell? w _ hx476_2)).trans hx476_2; replace hx476_3 := (HB.out.cell (World.block_lt_of_cell? w _ hx476_3)).trans hx476_3; replace p476 := eq_true p476; replace q476 := eq_true q476) | (go_at_call 76; (with_reducible refine (spec_l30Match.calls a1_0 ((rd_T24 l0 (ji73)).f2) t477 _ A76.out).mono ?_); rintro e w' ⟨rfl, ⟨nd, rfl⟩⟩; (try first | exact ⟨rfl, _, World.drewN_drewN _ _ _⟩ | exact ⟨rfl, _, Eq.trans (World.drewN_drewN _ _ _) (congrArg (World.drewN _) (Nat.add_assoc _ _ _))⟩))))); go_ret; (exact ⟨by first | rfl | (simp [errW_none, errW_some] <;> rfl) | (simp only [← hji57, ← hji73]; first | rfl | (simp [errW_none, errW_some] <;> rfl)) | (simp [*, errW_none, errW_some] <;> rfl), by repeat (first | (with_reducible first | exact HB.out | apply ba_ | apply bn_ | apply bd_ | refine below_set ?_ GE461.out) | exact HB.out)⟩)
             ·(rw [if_neg c75] at H); (exact absurd H (by simp))
            ·(rw [if_neg c74] at H); (exact absurd H (by simp))
           ·(rw [if_neg c72] at H); (have c72b0 : decide (0 < (wrap64 ((l0.length : Int) / a2))) = false := decide_eq_false c72); clear c72; (obtain rfl := Option.some.inj H); (have hcz78_0 : wc.cell? ⟨gb461, 0, none⟩ = some (.int .i64 a1_0) := (blk_cell BK461.out 0).trans rfl); (have hcz78_1 : wc.cell? ⟨gb461, 1, none⟩ = some (.int .i64 a1_1) := (blk_cell BK461.out 1).trans rfl); (have hcz78_2 : wc.cell? ⟨gb461, 2, none⟩ = some (.int .i64 a1_2) := (blk_cell BK461.out 2).trans rfl); (have hcz78_3 : wc.cell? ⟨gb461, 3, none⟩ = some (.int .i64 a1_3) := (blk_cell BK461.out 3).trans rfl); (have hfz78_0 := blk_frozen BK461.out 0); (have hfz78_1 := blk_frozen BK461.out 1); (have hfz78_2 := blk_frozen BK461.out 2); (have hfz78_3 := blk_frozen BK461.out 3); (have p472 : 0 ≤ ((ji57) : Int) := of_decide_eq_true (by first | (with_reducible assumption) | assumption)); (have q472 : (ji57) < (l0.length : Int) := of_decide_eq_true (by first | (with_reducible assumption) | assumption)); (obtain ⟨ad472, e472, hx472_0, hx472_1, hx472_2, hx472_3⟩ := at_T24 HR0.out (ji57) p472 q472); (cases e472); (replace hx472_0 := (HB.out.cell (World.block_lt_of_cell? w _ hx472_0)).trans hx472_0); (replace hx472_1 := (HB.out.cell (World.block_lt_of_cell? w _ hx472_1)).trans hx472_1); (replace hx472_2 := (HB.out.cell (World.block_lt_of_cell? w _ hx472_2)).trans hx472_2); (replace hx472_3 := (HB.out.cell (World.block_lt_of_cell? w _ hx472_3)).trans hx472_3); (replace p472 := eq_true p472); (replace q472 := eq_true q472); (go_wp2_with (first | (go_at_call 76; (with_reducible refine (spec_l30Match.calls a1_3 ((rd_T24 l0 (ji57)).f1) true _ A60.out).mono ?_); rintro e w' ⟨rfl, ⟨nd, rfl⟩⟩; (try first | exact ⟨rfl, _, World.drewN_drewN _ _ _⟩ | exact ⟨rfl, _, Eq.trans (World.drewN_drewN _ _ _) (congrArg (World.drewN _) (Nat.add_assoc _ _ _))⟩)))); (repeat (go_quiet (first | (go_at_call 76; (with_reducible refine (spec_l30Match.calls a1_3 ((rd_T24 l0 (ji57)).f1) true _ A60.out).mono ?_); rintro e w' ⟨rfl, ⟨nd, rfl⟩⟩; (try first | exact ⟨rfl, _, World.drewN_drewN _ _ _⟩ | exact ⟨rfl, _, Eq.trans (World.drewN_drewN _ _ _) (congrArg (World.drewN _) (Nat.add_assoc _ _ _))⟩))); try go_wp2_with (first | (go_at_call 76; (with_reducible refine (spec_l30Match.calls a1_3 ((rd_T24 l0 (ji57)).f1) true _ A60.out).mono ?_); rintro e w' ⟨rfl, ⟨nd, rfl⟩⟩; (try first | exact ⟨rfl, _, World.drewN_drewN _ _ _⟩ | exact ⟨rfl, _, Eq.trans (World.drewN_drewN _ _ _) (congrArg (World.drewN _) (Nat.add_assoc _ _ _))⟩))))); go_ret; (exact ⟨by first | rfl | (simp [errW_none, errW_some] <;> rfl) | (simp only [← hji57]; first | rfl | (simp [errW_none, errW_some] <;> rfl)) | (simp [*, errW_none, errW_some] <;> rfl), by repeat (first | (with_reducible first | exact HB.out | apply ba_ | apply bn_ | apply bd_ | refine below_set ?_ GE461.out) | exact HB.out)⟩)
         ·(replace c61 := Bool.eq_false_iff.mpr c61); subst c61; (have H1 : (some false) = some r := by rw [if_neg (show ¬ (false = true) by decide)] at H; exact H); clear H; (have H := H1); clear H1; (obtain rfl := Option.some.inj H); (have hcz79_0 : wc.cell? ⟨gb461, 0, none⟩ = some (.int .i64 a1_0) := (blk_cell BK461.out 0).trans rfl); (have hcz79_1 : wc.cell? ⟨gb461, 1, none⟩ = some (.int .i64 a1_1) := (blk_cell BK461.out 1).trans rfl); (have hcz79_2 : wc.cell? ⟨gb461, 2, none⟩ = some (.int .i64 a1_2) := (blk_cell BK461.out 2).trans rfl); (have hcz79_3 : wc.cell? ⟨gb461, 3, none⟩ = some (.int .i64 a1_3) := (blk_cell BK461.out 3).trans rfl); (have hfz79_0 := blk_frozen BK461.out 0); (have hfz79_1 := blk_frozen BK461.out 1); (have hfz79_2 := blk_frozen BK461.out 2); (have hfz79_3 := blk_frozen BK461.out 3); (have p472 : 0 ≤ ((ji57) : Int) := of_decide_eq_true (by first | (with_reducible assumption) | assumption)); (have q472 : (ji57) < (l0.length : Int) := of_decide_eq_true (by first | (with_reducible assumption) | assumption)); (obtain ⟨ad472, e472, hx472_0, hx472_1, hx472_2, hx472_3⟩ := at_T24 HR0.out (ji57) p472 q472); (cases e472); (replace hx472_0 := (HB.out.cell (World.block_lt_of_cell? w _ hx472_0)).trans hx472_0); (replace hx472_1 := (HB.out.cell (World.block_lt_of_cell? w _ hx472_1)).trans hx472_1); (replace hx472_2 := (HB.out.cell (World.block_lt_of_cell? w _ hx472_2)).trans hx472_2); (replace hx472_3 := (HB.out.cell (World.block_lt_of_cell? w _ hx472_3)).trans hx472_3); (replace p472 := eq_true p472); (replace q472 := eq_true q472); (go_wp2_with (first | (go_at_call 76; (with_reducible refine (spec_l30Match.calls a1_3 ((rd_T24 l0 (ji57)).f1) false _ A60.out).mono ?_); rintro e w' ⟨rfl, ⟨nd, rfl⟩⟩; (try first | exact ⟨rfl, _, World.drewN_drewN _ _ _⟩ | exact ⟨rfl, _, Eq.trans (World.drewN_drewN _ _ _) (congrArg (World.drewN _) (Nat.add_assoc _ _ _))⟩)))); (repeat (go_quiet (first | (go_at_call 76; (with_reducible refine (spec_l30Match.calls a1_3 ((rd_T24 l0 (ji57)).f1) false _ A60.out).mono ?_); rintro e w' ⟨rfl, ⟨nd, rfl⟩⟩; (try first | exact ⟨rfl, _, World.drewN_drewN _ _ _⟩ | exact ⟨rfl, _, Eq.trans (World.drewN_drewN _ _ _) (congrArg (World.drewN _) (Nat.add_assoc _ _ _))⟩))); try go_wp2_with (first | (go_at_call 76; (with_reducible refine (spec_l30Match.calls a1_3 ((rd_T24 l0 (ji57)).f1) false _ A60.out).mono ?_); rintro e w' ⟨rfl, ⟨nd, rfl⟩⟩; (try first | exact ⟨rfl, _, World.drewN_drewN _ _ _⟩ | exact ⟨rfl, _, Eq.trans (World.drewN_drewN _ _ _) (congrArg (World.drewN _) (Nat.add_assoc _ _ _))⟩))))); go_ret; (exact ⟨by first | rfl | (simp [errW_none, errW_some] <;> rfl) | (simp only [← hji57]; first | rfl | (simp [errW_none, errW_some] <;> rfl)) | (simp [*, errW_none, errW_some] <;> rfl), by repeat (first | (with_reducible first | exact HB.out | apply ba_ | apply bn_ | apply bd_ | refine below_set ?_ GE461.out) | exact HB.out)⟩)
        ·(rw [if_neg c59] at H); (exact absurd H (by simp))
       ·(rw [if_neg c58] at H); (exact absurd H (by simp))
      ·(rw [if_neg c56] at H); (have c56b0 : decide (0 < ((l0.length : Int) % a2)) = false := decide_eq_false c56); clear c56; (by_cases c80 : (wrap64 ((l0.length : Int) / a2)) = 0)
       ·(rw [if_pos c80] at H); (have c80b0 : ((wrap64 ((l0.length : Int) / a2)) == 0) = true := beq_iff_eq.mpr c80); (have c80b1 : ((wrap64 ((l0.length : Int) / a2)) != 0) = false := bne_eq_false_iff_eq.mpr c80); clear c80; (by_cases c81 : a1_0 = 0)
        ·(rw [if_pos c81] at H); (have c81b0 : (a1_0 == 0) = true := beq_iff_eq.mpr c81); (have c81b1 : (a1_0 != 0) = false := bne_eq_false_iff_eq.mpr c81); clear c81; (obtain rfl := Option.some.inj H); (have hcz82_0 : wc.cell? ⟨gb461, 0, none⟩ = some (.int .i64 a1_0) := (blk_cell BK461.out 0).trans rfl); (have hcz82_1 : wc.cell? ⟨gb461, 1, none⟩ = some (.int .i64 a1_1) := (blk_cell BK461.out 1).trans rfl); (have hcz82_2 : wc.cell? ⟨gb461, 2, none⟩ = some (.int .i64 a1_2) := (blk_cell BK461.out 2).trans rfl); (have hcz82_3 : wc.cell? ⟨gb461, 3, none⟩ = some (.int .i64 a1_3) := (blk_cell BK461.out 3).trans rfl); (have hfz82_0 := blk_frozen BK461.out 0); (have hfz82_1 := blk_frozen BK461.out 1); (have hfz82_2 := blk_frozen BK461.out 2); (have hfz82_3 := blk_frozen BK461.out 3); go_wp2; (repeat (go_quiet (fail); try go_wp2)); go_ret; (exact ⟨by first | rfl | (simp [errW_none, errW_some] <;> rfl) | (simp [*, errW_none, errW_some] <;> rfl), by repeat (first | (with_reducible first | exact HB.out | apply ba_ | apply bn_ | apply bd_ | refine below_set ?_ GE461.out) | exact HB.out)⟩)
        ·(rw [if_neg c81] at H); (have c81b0 : (a1_0 == 0) = false := beq_eq_false_iff_ne.mpr c81); (have c81b1 : (a1_0 != 0) = true := bne_iff_ne.mpr c81); (by_cases c83 : (wrap64 ((l0.length : Int) / a2)) > 0)
         ·(rw [if_pos c83] at H); (have c83b0 : decide (0 < (wrap64 ((l0.length : Int) / a2))) = true := decide_eq_true c83); clear c83; (obtain ⟨ji84, hji84⟩ : ∃ j_ : Int, (wrap64 ((l0.length : Int) - a2)) = j_ := ⟨_, rfl⟩)
          replace H : (if 0 ≤ (ji84) then (if (ji84) < (l0.length : Int) then ((spec_l30Match.f a1_0 ((rd_T24 l0 (ji84)).f2)).bind fun t479 => (some t479)) else (none)) else (none)) = some r := by first | (rw [hji84] at H; exact H) | (simp only [hji84] at H ⊢; exact H)
          (have hji84w : (IntKind.i64.wrap ((l0.length : Int) - a2)) = ji84 := (i64_w _).trans hji84); (by_cases c85 : 0 ≤ (ji84))
          ·(rw [if_pos c85] at H); (have c85b0 : decide (0 ≤ (ji84)) = true := decide_eq_true c85); clear c85; (by_cases c86 : (ji84) < (l0.length : Int))
           ·(rw [if_pos c86] at H); (have c86b0 : decide ((ji84) < (l0.length : Int)) = true := decide_eq_true c86); clear c86; (replace H := Option.bind_eq_some_iff.mp H); (obtain ⟨t479, A870, H⟩ := H); (try dsimp only at H); (have A87 := A0_ A870); clear A870; (obtain rfl := Option.some.inj H); (have hcz88_0 : wc.cell? ⟨gb461, 0, none⟩ = some (.int .i64 a1_0) := (blk_cell BK461.out 0).trans rfl); (have hcz88_1 : wc.cell? ⟨gb461, 1, none⟩ = some (.int .i64 a1_1) := (blk_cell BK461.out 1).trans rfl); (have hcz88_2 : wc.cell? ⟨gb461, 2, none⟩ = some (.int .i64 a1_2) := (blk_cell BK461.out 2).trans rfl); (have hcz88_3 : wc.cell? ⟨gb461, 3, none⟩ = some (.int .i64 a1_3) := (blk_cell BK461.out 3).trans rfl); (have hfz88_0 := blk_frozen BK461.out 0); (have hfz88_1 := blk_frozen BK461.out 1); (have hfz88_2 := blk_frozen BK461.out 2); (have hfz88_3 := blk_frozen BK461.out 3); (have p478 : 0 ≤ ((ji84) : Int) := of_decide_eq_true (by first | (with_reducible assumption) | assumption)); (have q478 : (ji84) < (l0.length : Int) := of_decide_eq_true (by first | (with_reducible assumption) | assumption)); (obtain ⟨ad478, e478, hx478_0, hx478_1, hx478_2, hx478_3⟩ := at_T24 HR0.out (ji84) p478 q478); (cases e478); (replace hx478_0 := (HB.out.cell (World.block_lt_of_cell? w _ hx478_0)).trans hx478_0); (replace hx478_1 := (HB.out.cell (World.block_lt_of_cell? w _ hx478_1)).trans hx478_1); (replace hx478_2 := (HB.out.cell (World.block_lt_of_cell? w _ hx478_2)).trans hx478_2); (replace hx478_3 := (HB.out.cell (World.block_lt_of_cell? w _ hx478_3)).trans hx478_3); (replace p478 := eq_true p478); (replace q478 := eq_true q478); (go_wp2_with (first | (go_at_call 76; (with_reducible refine (spec_l30Match.calls a1_0 ((rd_T24 l0 (ji84)).f2) t479 _ A87.out).mono ?_); rintro e w' ⟨rfl, ⟨nd, rfl⟩⟩; (try first | exact ⟨rfl, _, World.drewN_drewN _ _ _⟩ | exact ⟨rfl, _, Eq.trans (World.drewN_drewN _ _ _) (congrArg (World.drewN _) (Nat.add_assoc _ _ _))⟩)))); (repeat (go_quiet (first | (go_at_call 76; (with_reducible refine (spec_l30Match.calls a1_0 ((rd_T24 l0 (ji84)).f2) t479 _ A87.out).mono ?_); rintro e w' ⟨rfl, ⟨nd, rfl⟩⟩; (try first | exact ⟨rfl, _, World.drewN_drewN _ _ _⟩ | exact ⟨rfl, _, Eq.trans (World.drewN_drewN _ _ _) (congrArg (World.drewN _) (Nat.add_assoc _ _ _))⟩))); try go_wp2_with (first | (go_at_call 76; (with_reducible refine (spec_l30Match.calls a1_0 ((rd_T24 l0 (ji84)).f2) t479 _ A87.out).mono ?_); rintro e w' ⟨rfl, ⟨nd, rfl⟩⟩; (try first | exact ⟨rfl, _, World.drewN_drewN _ _ _⟩ | exact ⟨rfl, _, Eq.trans (World.drewN_drewN _ _ _) (congrArg (World.drewN _) (Nat.add_assoc _ _ _))⟩))))); go_ret; (exact ⟨by first | rfl | (simp [errW_none, errW_some] <;> rfl) | (simp only [← hji84]; first | rfl | (simp [errW_none, errW_some] <;> rfl)) | (simp [*, errW_none, errW_some] <;> rfl), by repeat (first | (with_reducible first | exact HB.out | apply ba_ | apply bn_ | apply bd_ | refine below_set ?_ GE461.out) | exact HB.out)⟩)
           ·(rw [if_neg c86] at H); (exact absurd H (by simp))
          ·(rw [if_neg c85] at H); (exact absurd H (by simp))
         ·(rw [if_neg c83] at H); (have c83b0 : decide (0 < (wrap64 ((l0.length : Int) / a2))) = false := decide_eq_false c83); clear c83; (obtain rfl := Option.some.inj H); (have hcz89_0 : wc.cell? ⟨gb461, 0, none⟩ = some (.int .i64 a1_0) := (blk_cell BK461.out 0).trans rfl); (have hcz89_1 : wc.cell? ⟨gb461, 1, none⟩ = some (.int .i64 a1_1) := (blk_cell BK461.out 1).trans rfl); (have hcz89_2 : wc.cell? ⟨gb461, 2, none⟩ = some (.int .i64 a1_2) := (blk_cell BK461.out 2).trans rfl); (have hcz89_3 : wc.cell? ⟨gb461, 3, none⟩ = some (.int .i64 a1_3) := (blk_cell BK461.out 3).trans rfl); (have hfz89_0 := blk_frozen BK461.out 0); (have hfz89_1 := blk_frozen BK461.out 1); (have hfz89_2 := blk_frozen BK461.out 2); (have hfz89_3 := blk_frozen BK461.out 3); go_wp2; (repeat (go_quiet (fail); try go_wp2)); go_ret; (exact ⟨by first | rfl | (simp [errW_none, errW_some] <;> rfl) | (simp [*, errW_none, errW_some] <;> rfl), by repeat (first | (with_reducible first | exact HB.out | apply ba_ | apply bn_ | apply bd_ | refine below_set ?_ GE461.out) | exact HB.out)⟩)
       ·(rw [if_neg c80] at H); (have c80b0 : ((wrap64 ((l0.length : Int) / a2)) == 0) = false := beq_eq_false_iff_ne.mpr c80); (have c80b1 : ((wrap64 ((l0.length : Int) / a2)) != 0) = true := bne_iff_ne.mpr c80); (by_cases c90 : (wrap64 ((l0.length : Int) / a2)) > 0)
        ·(rw [if_pos c90] at H); (have c90b0 : decide (0 < (wrap64 ((l0.length : Int) / a2))) = true := decide_eq_true c90); clear c90; (obtain ⟨ji91, hji91⟩ : ∃ j_ : Int, (wrap64 ((l0.length : Int) - a2)) = j_ := ⟨_, rfl⟩)
         replace H : (if 0 ≤ (ji91) then (if (ji91) < (l0.length : Int) then ((spec_l30Match.f a1_0 ((rd_T24 l0 (ji91)).f2)).bind fun t481 => (some t481)) else (none)) else (none)) = some r := by first | (rw [hji91] at H; exact H) | (simp only [hji91] at H ⊢; exact H)
         (have hji91w : (IntKind.i64.wrap ((l0.length : Int) - a2)) = ji91 := (i64_w _).trans hji91); (by_cases c92 : 0 ≤ (ji91))
         ·(rw [if_pos c92] at H); (have c92b0 : decide (0 ≤ (ji91)) = true := decide_eq_true c92); clear c92; (by_cases c93 : (ji91) < (l0.length : Int))
          ·(rw [if_pos c93] at H); (have c93b0 : decide ((ji91) < (l0.length : Int)) = true := decide_eq_true c93); clear c93; (replace H := Option.bind_eq_some_iff.mp H); (obtain ⟨t481, A940, H⟩ := H); (try dsimp only at H); (have A94 := A0_ A940); clear A940; (obtain rfl := Option.some.inj H); (have hcz95_0 : wc.cell? ⟨gb461, 0, none⟩ = some (.int .i64 a1_0) := (blk_cell BK461.out 0).trans rfl); (have hcz95_1 : wc.cell? ⟨gb461, 1, none⟩ = some (.int .i64 a1_1) := (blk_cell BK461.out 1).trans rfl); (have hcz95_2 : wc.cell? ⟨gb461, 2, none⟩ = some (.int .i64 a1_2) := (blk_cell BK461.out 2).trans rfl); (have hcz95_3 : wc.cell? ⟨gb461, 3, none⟩ = some (.int .i64 a1_3) := (blk_cell BK461.out 3).trans rfl); (have hfz95_0 := blk_frozen BK461.out 0); (have hfz95_1 := blk_frozen BK461.out 1); (have hfz95_2 := blk_frozen BK461.out 2); (have hfz95_3 := blk_frozen BK461.out 3); (have p480 : 0 ≤ ((ji91) : Int) := of_decide_eq_true (by first | (with_reducible assumption) | assumption)); (have q480 : (ji91) < (l0.length : Int) := of_decide_eq_true (by first | (with_reducible assumption) | assumption)); (obtain ⟨ad480, e480, hx480_0, hx480_1, hx480_2, hx480_3⟩ := at_T24 HR0.out (ji91) p480 q480); (cases e480); (replace hx480_0 := (HB.out.cell (World.block_lt_of_cell? w _ hx480_0)).trans hx480_0); (replace hx480_1 := (HB.out.cell (World.block_lt_of_cell? w _ hx480_1)).trans hx480_1); (replace hx480_2 := (HB.out.cell (World.block_lt_of_cell? w _ hx480_2)).trans hx480_2); (replace hx480_3 := (HB.out.cell (World.block_lt_of_cell? w _ hx480_3)).trans hx480_3); (replace p480 := eq_true p480); (replace q480 := eq_true q480); (go_wp2_with (first | (go_at_call 76; (with_reducible refine (spec_l30Match.calls a1_0 ((rd_T24 l0 (ji91)).f2) t481 _ A94.out).mono ?_); rintro e w' ⟨rfl, ⟨nd, rfl⟩⟩; (try first | exact ⟨rfl, _, World.drewN_drewN _ _ _⟩ | exact ⟨rfl, _, Eq.trans (World.drewN_drewN _ _ _) (congrArg (World.drewN _) (Nat.add_assoc _ _ _))⟩)))); (repeat (go_quiet (first | (go_at_call 76; (with_reducible refine (spec_l30Match.calls a1_0 ((rd_T24 l0 (ji91)).f2) t481 _ A94.out).mono ?_); rintro e w' ⟨rfl, ⟨nd, rfl⟩⟩; (try first | exact ⟨rfl, _, World.drewN_drewN _ _ _⟩ | exact ⟨rfl, _, Eq.trans (World.drewN_drewN _ _ _) (congrArg (World.drewN _) (Nat.add_assoc _ _ _))⟩))); try go_wp2_with (first | (go_at_call 76; (with_reducible refine (spec_l30Match.calls a1_0 ((rd_T24 l0 (ji91)).f2) t481 _ A94.out).mono ?_); rintro e w' ⟨rfl, ⟨nd, rfl⟩⟩; (try first | exact ⟨rfl, _, World.drewN_drewN _ _ _⟩ | exact ⟨rfl, _, Eq.trans (World.drewN_drewN _ _ _) (congrArg (World.drewN _) (Nat.add_assoc _ _ _))⟩))))); go_ret; (exact ⟨by first | rfl | (simp [errW_none, errW_some] <;> rfl) | (simp only [← hji91]; first | rfl | (simp [errW_none, errW_some] <;> rfl)) | (simp [*, errW_none, errW_some] <;> rfl), by repeat (first | (with_reducible first | exact HB.out | apply ba_ | apply bn_ | apply bd_ | refine below_set ?_ GE461.out) | exact HB.out)⟩)
          ·(rw [if_neg c93] at H); (exact absurd H (by simp))
         ·(rw [if_neg c92] at H); (exact absurd H (by simp))
        ·(rw [if_neg c90] at H); (have c90b0 : decide (0 < (wrap64 ((l0.length : Int) / a2))) = false := decide_eq_false c90); clear c90; (obtain rfl := Option.some.inj H); go_wp2; (repeat (go_quiet (fail); try go_wp2)); go_ret; (exact ⟨by first | rfl | (simp [errW_none, errW_some] <;> rfl) | (simp [*, errW_none, errW_some] <;> rfl), by repeat (first | (with_reducible first | exact HB.out | apply ba_ | apply bn_ | apply bd_ | refine below_set ?_ GE461.out) | exact HB.out)⟩)
end Go.Proofs.Ytgcagmmghckbbaa.A







/- Plain laws of layouts: codes, what fits, what is a correct layout. -/
namespace Go.Proofs.Ytgcagmmghckbbaa.A
set_option linter.unusedSimpArgs false
set_option linter.unusedVariables false
open Go.RowKit Go.Proofs.YtgcagmmghckbbaaW.PrintWords Go.Proofs.YtgcagmmghckbbaaW.PrintLast Go.Proofs.YtgcagmmghckbbaaW.PrintMore
abbrev St := S74
/-- The code of a jigsaw. -/
def codeV (l : List Tl) (w h : Int) : Int := if l.all okT then if inB w 1 6 && (inB h 1 6 && (decide (w * h = l.length) && decide (l.length ≤ 12))) then 0 else 2 else 1
theorem code_tail (w h n : Int) (hw : inB w 1 6 = true) (hh : inB h 1 6 = true) : wrap64 (w * h) = w * h := by
  obtain ⟨a, b⟩ := (inB_iff _ _ _).1 hw
  obtain ⟨c, d⟩ := (inB_iff _ _ _).1 hh
  have h1 : 0 ≤ w * h := Int.mul_nonneg (by omega) (by omega)
  have h2 : w * h ≤ 6 * 6 := Int.mul_le_mul b d (by omega) (by omega)
  exact wrap_id (by omega) (by omega)
theorem l30Code_ev (l : List Tl) (w h : Int) (hl : l.length ≤ 1048576) : Ev (fun k => spec_l30Code.f k l w h) (codeV l w h) := by
  unfold spec_l30Code.f codeV
  refine Ev.bind (l30Valid_ev l (by simp [maxLen]; omega)) (Ev.val fun k => ?_)
  cases l.all okT
  · rfl
  · simp only [if_true, l01In_eq, Option.bind_some]
    cases hw : inB w 1 6
    · rfl
    · cases hh : inB h 1 6
      · rfl
      · simp only [if_true, code_tail w h 0 hw hh, Bool.true_and]
        by_cases c : w * h = (l.length : Int)
        · by_cases d : l.length ≤ 12
          · simp [c, d]; omega
          · simp [c, d]; omega
        · simp [c]
theorem jigsawCode_ev (l : List Tl) (w h : Int) : Ev (fun k => impl_jigsawCode.f k l w h) (codeV l w h) := by
  unfold impl_jigsawCode.f codeV
  refine Ev.bind (Ev.val fun k => areTiles_eq k l) (Ev.val fun k => ?_)
  cases l.all okT
  · rfl
  · simp only [if_true, within_eq, Option.bind_some]
    cases hw : inB w 1 6
    · rfl
    · cases hh : inB h 1 6
      · rfl
      · simp only [if_true, code_tail w h 0 hw hh, Bool.true_and]
        by_cases c : w * h = (l.length : Int)
        · by_cases d : l.length ≤ 12
          · simp [c, d]; omega
          · simp [c, d]; omega
        · simp [c]
theorem codeV_zero {l : List Tl} {w h : Int} (hc : codeV l w h = 0) : l.all okT = true ∧ 1 ≤ w ∧ w ≤ 6 ∧ 1 ≤ h ∧ h ≤ 6 ∧ w * h = l.length ∧ l.length ≤ 12 := by
  unfold codeV at hc
  split at hc
  · rename_i h1
    split at hc
    · rename_i h2
      simp only [Bool.and_eq_true, inB_iff, decide_eq_true_eq] at h2
      exact ⟨h1, h2.1.1, h2.1.2, h2.2.1.1, h2.2.1.2, h2.2.2.1, h2.2.2.2⟩
    · omega
  · omega
def matchS (a b : Int) : Bool := if a = 0 then false else wrap64 (a + b) == 0
def matchI (a b : Int) : Bool := if a = 0 then false else if b = 0 then false else wrap64 (a + b) == 0
theorem okE_iff (x : Int) : okE x = true ↔ -9 ≤ x ∧ x ≤ 9 := inB_iff _ _ _
theorem match_eq (a b : Int) (ha : okE a = true) (hb : okE b = true) : matchI b a = matchS a b := by
  rw [okE_iff] at ha hb
  unfold matchI matchS
  rw [show wrap64 (b + a) = a + b from by unfold wrap64; omega, show wrap64 (a + b) = a + b from by unfold wrap64; omega]
  by_cases h1 : a = 0
  · simp [h1]
  · by_cases h2 : b = 0
    · simp [h2, h1]
    · simp [h1, h2]
theorem l30Match_eq (a b : Int) : spec_l30Match.f a b = some (matchS a b) := by
  unfold spec_l30Match.f matchS
  split <;> rfl
theorem implMatch_eq (a b : Int) : impl_match.f a b = some (matchI a b) := by
  unfold impl_match.f matchI
  split
  · rfl
  · split <;> rfl
def lastT (pl : List Tl) (i : Int) : Tl := rd_T24 pl i
def sideV (m : Int → Int → Bool) (z x y : Int) : Bool := if z = 0 then x == 0 else m x y
theorem spec_fits_j0 (k : Nat) (pl : List Tl) (w col row : Int) (b : Bool) (t : Tl) (h1 : 1 ≤ w) (h6 : w ≤ 6) (hc0 : 0 ≤ col) (hr0 : 0 ≤ row) (hcol : 0 < col → 1 ≤ pl.length) (hrow : 0 < row → w ≤ pl.length) (hl : pl.length ≤ 1048576) :
    spec_l30Fits.j0 (k + 1) pl w pl.length col row b t.f0 t.f1 t.f2 t.f3 = some (!b && (sideV matchS col t.f3 (lastT pl (pl.length - 1)).f1 && sideV matchS row t.f0 (lastT pl (pl.length - w)).f2)) := by
  have e1 : wrap64 ((pl.length : Int) - 1) = pl.length - 1 := by unfold wrap64; omega
  have e2 : wrap64 ((pl.length : Int) - w) = pl.length - w := by unfold wrap64; omega
  simp only [spec_l30Fits.j0, l30Match_eq, Option.bind_some, e1, e2]
  cases b
  · have a1 : (pl.length : Int) - 1 < pl.length := by omega
    have a2 : (pl.length : Int) - w < pl.length := by omega
    by_cases c : col = 0
    · by_cases r : row = 0
      · by_cases p : t.f3 = 0 <;> by_cases q : t.f0 = 0 <;> simp [sideV, c, r, p, q] <;> omega
      · have a3 : 0 ≤ (pl.length : Int) - w := by have := hrow (by omega); omega
        have a4 : 0 < row := by omega
        by_cases p : t.f3 = 0 <;> simp [sideV, c, r, p, a2, a3, a4, lastT] <;> omega
    · have a5 : 0 ≤ (pl.length : Int) - 1 := by have := hcol (by omega); omega
      have a6 : 0 < col := by omega
      by_cases r : row = 0
      · cases hm : matchS t.f3 (rd_T24 pl (pl.length - 1)).f1 <;> by_cases q : t.f0 = 0 <;> simp [sideV, c, r, q, a1, a5, a6, hm, lastT] <;> omega
      · have a3 : 0 ≤ (pl.length : Int) - w := by have := hrow (by omega); omega
        have a4 : 0 < row := by omega
        cases hm : matchS t.f3 (rd_T24 pl (pl.length - 1)).f1 <;> simp [sideV, c, r, a1, a2, a3, a4, a5, a6, hm, lastT] <;> omega
  · simp
theorem impl_fits_j0 (k : Nat) (pl : List Tl) (w col row : Int) (b : Bool) (t : Tl) (h1 : 1 ≤ w) (h6 : w ≤ 6) (hc0 : 0 ≤ col) (hr0 : 0 ≤ row) (hcol : 0 < col → 1 ≤ pl.length) (hrow : 0 < row → w ≤ pl.length) (hl : pl.length ≤ 1048576) :
    impl_fits.j0 (k + 1) pl w pl.length col row b t.f0 t.f1 t.f2 t.f3 = some (!b && (sideV (fun x y => matchI y x) col t.f3 (lastT pl (pl.length - 1)).f1 && sideV (fun x y => matchI y x) row t.f0 (lastT pl (pl.length - w)).f2)) := by
  have e1 : wrap64 ((pl.length : Int) - 1) = pl.length - 1 := by unfold wrap64; omega
  have e2 : wrap64 ((pl.length : Int) - w) = pl.length - w := by unfold wrap64; omega
  simp only [impl_fits.j0, implMatch_eq, Option.bind_some, e1, e2]
  cases b
  · have a1 : (pl.length : Int) - 1 < pl.length := by omega
    have a2 : (pl.length : Int) - w < pl.length := by omega
    by_cases c : col = 0
    · by_cases r : row = 0
      · by_cases p : t.f3 = 0 <;> by_cases q : t.f0 = 0 <;> simp [sideV, c, r, p, q] <;> omega
      · have a3 : 0 ≤ (pl.length : Int) - w := by have := hrow (by omega); omega
        have a4 : 0 < row := by omega
        by_cases p : t.f3 = 0 <;> simp [sideV, c, r, p, a2, a3, a4, lastT] <;> omega
    · have a5 : 0 ≤ (pl.length : Int) - 1 := by have := hcol (by omega); omega
      have a6 : 0 < col := by omega
      by_cases r : row = 0
      · cases hm : matchI (rd_T24 pl (pl.length - 1)).f1 t.f3 <;> by_cases q : t.f0 = 0 <;> simp [sideV, c, r, q, a1, a5, a6, hm, lastT] <;> omega
      · have a3 : 0 ≤ (pl.length : Int) - w := by have := hrow (by omega); omega
        have a4 : 0 < row := by omega
        cases hm : matchI (rd_T24 pl (pl.length - 1)).f1 t.f3 <;> simp [sideV, c, r, a1, a2, a3, a4, a5, a6, hm, lastT] <;> omega
  · simp
/-- Does a turned tile fit behind those that are placed? -/
def fitsV (pl : List Tl) (t : Tl) (w h : Int) : Bool :=
  !(((t.f1 == 0) != ((pl.length : Int) % w == w - 1)) || ((t.f2 == 0) != ((pl.length : Int) / w == h - 1))) &&
    (sideV matchS ((pl.length : Int) % w) t.f3 (lastT pl (pl.length - 1)).f1 && sideV matchS ((pl.length : Int) / w) t.f0 (lastT pl (pl.length - w)).f2)
theorem grid (n : Nat) (w : Int) (h1 : 1 ≤ w) : 0 ≤ (n : Int) % w ∧ 0 ≤ (n : Int) / w ∧ (n : Int) / w ≤ n ∧ (0 < (n : Int) % w → 1 ≤ n) ∧ (0 < (n : Int) / w → w ≤ n) := by
  refine ⟨Int.emod_nonneg _ (by omega), Int.ediv_nonneg (by omega) (by omega), Int.ediv_le_self _ (by omega), fun h => ?_, fun h => ?_⟩
  · rcases Nat.eq_zero_or_pos n with rfl | h0
    · simp at h
    · exact h0
  · rcases Int.lt_or_le (n : Int) w with h0 | h0
    · rw [Int.ediv_eq_zero_of_lt (by omega) h0] at h; omega
    · exact h0
theorem l30Fits_ev (pl : List Tl) (t : Tl) (w h : Int) (h1 : 1 ≤ w) (h6 : w ≤ 6) (hh1 : 1 ≤ h) (hh6 : h ≤ 6) (hl : pl.length ≤ 1048576) :
    Ev (fun k => spec_l30Fits.f k pl t.f0 t.f1 t.f2 t.f3 w h) (fitsV pl t w h) := by
  obtain ⟨g1, g2, g3, g4, g5⟩ := grid pl.length w h1
  have e1 : wrap64 (w - 1) = w - 1 := by unfold wrap64; omega
  have e2 : wrap64 (h - 1) = h - 1 := by unfold wrap64; omega
  have e3 : wrap64 ((pl.length : Int) / w) = pl.length / w := wrap_id (by omega) (by omega)
  refine ⟨1, fun k hk => ?_⟩
  obtain ⟨m, rfl⟩ : ∃ m, k = m + 1 := ⟨k - 1, by omega⟩
  unfold spec_l30Fits.f fitsV
  dsimp only
  rw [if_neg (by omega), e1, e2, e3]
  simp only [spec_fits_j0 _ _ _ _ _ _ _ h1 h6 g1 g2 g4 g5 hl]
  cases ((t.f1 == 0) != ((pl.length : Int) % w == w - 1)) <;> simp
theorem fits_ev (pl : List Tl) (t : Tl) (w h : Int) (h1 : 1 ≤ w) (h6 : w ≤ 6) (hh1 : 1 ≤ h) (hh6 : h ≤ 6) (hl : pl.length ≤ 1048576) (hp : pl.all okT = true) (ht : okT t = true) :
    Ev (fun k => impl_fits.f k t.f0 t.f1 t.f2 t.f3 pl w h) (fitsV pl t w h) := by
  obtain ⟨g1, g2, g3, g4, g5⟩ := grid pl.length w h1
  have e1 : wrap64 (w - 1) = w - 1 := by unfold wrap64; omega
  have e2 : wrap64 (h - 1) = h - 1 := by unfold wrap64; omega
  have e3 : wrap64 ((pl.length : Int) / w) = pl.length / w := wrap_id (by omega) (by omega)
  have hok : ∀ i : Int, 0 ≤ i → i < pl.length → okT (lastT pl i) = true := fun i h0 hi => by
    have hi' : i.toNat < pl.length := by omega
    rw [List.all_eq_true] at hp
    unfold lastT rd_T24
    rw [getD_at _ _ _ hi']
    exact hp _ (List.getElem_mem hi')
  have hparts : ∀ t : Tl, okT t = true → okE t.f0 = true ∧ okE t.f1 = true ∧ okE t.f2 = true ∧ okE t.f3 = true := fun t h => by
    unfold okT at h
    simpa using h
  have s1 : sideV (fun x y => matchI y x) ((pl.length : Int) % w) t.f3 (lastT pl (pl.length - 1)).f1 = sideV matchS ((pl.length : Int) % w) t.f3 (lastT pl (pl.length - 1)).f1 := by
    unfold sideV
    split
    · rfl
    · exact match_eq _ _ (hparts t ht).2.2.2 (hparts _ (hok _ (by have := g4 (by omega); omega) (by omega))).2.1
  have s2 : sideV (fun x y => matchI y x) ((pl.length : Int) / w) t.f0 (lastT pl (pl.length - w)).f2 = sideV matchS ((pl.length : Int) / w) t.f0 (lastT pl (pl.length - w)).f2 := by
    unfold sideV
    split
    · rfl
    · exact match_eq _ _ (hparts t ht).1 (hparts _ (hok _ (by have := g5 (by omega); omega) (by omega))).2.2.1
  refine ⟨1, fun k hk => ?_⟩
  obtain ⟨m, rfl⟩ : ∃ m, k = m + 1 := ⟨k - 1, by omega⟩
  unfold impl_fits.f fitsV
  dsimp only
  rw [if_neg (by omega), e1, e2, e3]
  simp only [impl_fits_j0 _ _ _ _ _ _ _ h1 h6 g1 g2 g4 g5 hl, s1, s2]
  rw [show (((pl.length : Int) % w == w - 1) != (t.f1 == 0)) = ((t.f1 == 0) != ((pl.length : Int) % w == w - 1)) from bne_comm, show (((pl.length : Int) / w == h - 1) != (t.f2 == 0)) = ((t.f2 == 0) != ((pl.length : Int) / w == h - 1)) from bne_comm]
  cases ((t.f1 == 0) != ((pl.length : Int) % w == w - 1)) <;> simp
end Go.Proofs.Ytgcagmmghckbbaa.A

/- Plain laws of layouts, the loops: whether a layout is correct, as the reference and as the program ask it. -/
namespace Go.Proofs.Ytgcagmmghckbbaa.A
set_option linter.unusedSimpArgs false
set_option linter.unusedVariables false
open Go.RowKit Go.Proofs.YtgcagmmghckbbaaW.PrintWords Go.Proofs.YtgcagmmghckbbaaW.PrintLast Go.Proofs.YtgcagmmghckbbaaW.PrintMore
def tileAt (tiles : List Tl) (i : Int) : Tl := rd_T24 tiles i
def setAt (l : List St) (i : Int) : St := rd_T74 l i
theorem setAt_nat (l : List St) (j : Nat) (h : j < l.length) : rd_T74 l (j : Int) = l[j] := by unfold rd_T74; exact getD_nat l _ j h
/-- Is what is left of a layout correct behind what is placed? -/
def corr (tiles : List Tl) (w h : Int) : List Tl → List Int → List St → Bool
  | _, _, [] => true
  | pl, seen, s :: r => inB s.f0 0 ((tiles.length : Int) - 1) && (inB s.f1 0 3 && (!(seen.contains s.f0) && (fitsV pl (turnT (tileAt tiles s.f0) s.f1) w h && corr tiles w h (pl ++ [turnT (tileAt tiles s.f0) s.f1]) (seen ++ [s.f0]) r)))
theorem turnT_ok (t : Tl) (n : Int) (h : okT t = true) : okT (turnT t n) = true := by
  unfold okT at h ⊢
  simp only [Bool.and_eq_true] at h
  unfold turnT
  split
  · simp [h]
  · split
    · simp [h]
    · split <;> simp [h]
theorem tileAt_ok (tiles : List Tl) (i : Int) (h : tiles.all okT = true) (h0 : 0 ≤ i) (h1 : i < tiles.length) : okT (tileAt tiles i) = true := by
  rw [List.all_eq_true] at h
  unfold tileAt rd_T24
  have hi : i.toNat < tiles.length := by omega
  rw [getD_at _ _ _ hi]
  exact h _ (List.getElem_mem hi)
theorem wrap_pred (n : Nat) (h : n ≤ 1048576) : wrap64 ((n : Int) - 1) = (n : Int) - 1 := by unfold wrap64; omega
theorem impl_corr_ev (tiles : List Tl) (w h : Int) (l : List St) (hc : codeV tiles w h = 0) (hl : l.length ≤ 1048576) :
    Ev (fun k => impl_isCorrect.l0 k tiles w h (List.replicate tiles.length false) [] l (l.length : Int) 0) (corr tiles w h [] [] l) := by
  obtain ⟨ho, hw1, hw6, hh1, hh6, hwh, hn⟩ := codeV_zero hc
  have := ev_listI l (fun (s : List Bool × List Tl × List Int) j => s.1.length = tiles.length ∧ s.2.1.length = j ∧ s.2.1.all okT = true ∧ ∀ i : Nat, i < tiles.length → s.1.getD i false = s.2.2.contains (i : Int)) (fun s i k => impl_isCorrect.l0 k tiles w h s.1 s.2.1 l (l.length : Int) i) (fun s r => corr tiles w h s.2.1 s.2.2 r) (fun s hi => ?_) (fun s j hj hi ih => ?_) l.length 0 (List.replicate tiles.length false, [], []) (by omega) ⟨by simp, rfl, rfl, fun i hi => by simp [List.getD_eq_getElem?_getD, hi]⟩
  · simpa using this
  · exact Ev.step (f := fun _ => some true) (fun k => by simp only [impl_isCorrect.l0]; rw [if_neg (by omega)]) (Ev.now _)
  · obtain ⟨i1, i2, i3, i4⟩ := hi
    have j1 : ∀ k a b, impl_isCorrect.j1 (k + 1) tiles w h s.1 s.2.1 l (l.length : Int) j true a b = some false := fun k a b => by simp [impl_isCorrect.j1]
    have c1 : (j : Int) < (l.length : Int) := by omega
    have c2 : (0 : Int) ≤ (j : Int) := by omega
    refine Ev.succ ?_
    simp only [impl_isCorrect.l0, c1, c2, if_true, setAt_nat l j hj, wrap_pred _ (show tiles.length ≤ 1048576 by omega), within_eq, Option.bind_some]
    unfold corr
    cases h1 : inB l[j].f0 0 ((tiles.length : Int) - 1)
    · simp only [Bool.false_eq_true, if_false, Bool.false_and]
      exact Ev.step (f := fun _ => some false) (fun k => j1 k _ _) (Ev.now _)
    · obtain ⟨h1a, h1b⟩ := (inB_iff _ _ _).1 h1
      simp only [if_true, within_eq, Option.bind_some, Bool.true_and]
      cases h2 : inB l[j].f1 0 3
      · simp only [Bool.false_eq_true, if_false, Bool.false_and]
        exact Ev.step (f := fun _ => some false) (fun k => j1 k _ _) (Ev.now _)
      · obtain ⟨h2a, h2b⟩ := (inB_iff _ _ _).1 h2
        have hlt : l[j].f0.toNat < tiles.length := by omega
        have e0 : ((l[j].f0.toNat : Nat) : Int) = l[j].f0 := by omega
        have hu : rdOf false s.1 l[j].f0 = s.2.2.contains l[j].f0 := by
          have := i4 _ hlt
          rw [e0] at this
          exact this
        simp only [if_true, Bool.true_and, if_pos h1a, show l[j].f0 < (s.1.length : Int) from by omega, hu]
        cases h3 : s.2.2.contains l[j].f0
        · simp only [Bool.not_false, Bool.true_and]
          refine Ev.succ ?_
          simp only [impl_isCorrect.j1, Bool.false_eq_true, if_false, if_pos h1a, show l[j].f0 < (s.1.length : Int) from by omega, show l[j].f0 < (tiles.length : Int) from by omega, if_true]
          have ht : okT (turnT (tileAt tiles l[j].f0) l[j].f1) = true := turnT_ok _ _ (tileAt_ok tiles _ ho h1a (by omega))
          refine Ev.bind (turnTile_ev (rd_T24 tiles l[j].f0) l[j].f1 h2a h2b) ?_
          refine Ev.bind (fits_ev s.2.1 (turnT (tileAt tiles l[j].f0) l[j].f1) w h hw1 hw6 hh1 hh6 (by omega) i3 ht) ?_
          cases h4 : fitsV s.2.1 (turnT (tileAt tiles l[j].f0) l[j].f1) w h
          · simpa using Ev.now false
          · simp only [if_true, Bool.true_and, show s.2.1.length < 4398046511104 from by omega]
            have := ih (s.1.set l[j].f0.toNat true, s.2.1 ++ [turnT (tileAt tiles l[j].f0) l[j].f1], s.2.2 ++ [l[j].f0]) ⟨by simp [i1], by simp [i2], by simp [i3, ht], fun i hi => by
              simp only [List.getD_eq_getElem?_getD, List.getElem?_set, List.contains_append]
              by_cases e : l[j].f0.toNat = i
              · subst e
                simp [i1, hlt, e0]
              · rw [if_neg e, ← List.getD_eq_getElem?_getD, i4 i hi]
                have hne : ¬ ((i : Int) = l[j].f0) := by omega
                simp [hne]⟩
            rw [← wrap_succ j (by omega)] at this
            exact this
        · exact Ev.step (f := fun _ => some false) (fun k => j1 k _ _) (Ev.now _)
/-- Is it a correct layout of a jigsaw? -/
def layV (tiles : List Tl) (w h : Int) (l : List St) : Bool := decide (codeV tiles w h = 0) && (decide (l.length = tiles.length) && corr tiles w h [] [] l)
theorem isCorrect_ev (tiles : List Tl) (w h : Int) (l : List St) (c : codeV tiles w h = 0) (hl : l.length ≤ 1048576) : Ev (fun k => impl_isCorrect.f k tiles w h l) (decide (l.length = tiles.length) && corr tiles w h [] [] l) := by
  have hn := (codeV_zero c).2.2.2.2.2.2
  unfold impl_isCorrect.f
  by_cases d : l.length = tiles.length
  · simp only [d, if_true, decide_true, Bool.true_and, Int.toNat_natCast, show (0 : Int) ≤ (tiles.length : Int) from by omega, show tiles.length ≤ 281474976710656 from by omega]
    have := impl_corr_ev tiles w h l c hl
    rw [d] at this
    exact this
  · simp only [show ¬ ((l.length : Int) = (tiles.length : Int)) from by omega, if_false]
    simp only [d, decide_false, Bool.false_and]
    exact Ev.now _
theorem implIsCorrect_ev (tiles : List Tl) (w h : Int) (l : List St) (hl : l.length ≤ 1048576) : Ev (fun k => impl_IsCorrectLayout.f k tiles w h l) (layV tiles w h l) := by
  unfold impl_IsCorrectLayout.f layV
  refine Ev.bind (jigsawCode_ev tiles w h) ?_
  by_cases c : codeV tiles w h = 0
  · simp only [c, if_true, decide_true, Bool.true_and]
    exact Ev.bind (isCorrect_ev tiles w h l c hl) (Ev.now _)
  · simp only [c, if_false, decide_false, Bool.false_and]
    exact Ev.now _
end Go.Proofs.Ytgcagmmghckbbaa.A

/- The search for layouts, in plain words: a step and those behind it. -/
namespace Go.Proofs.Ytgcagmmghckbbaa.A
set_option linter.unusedSimpArgs false
set_option linter.unusedVariables false
open Go.RowKit Go.Proofs.YtgcagmmghckbbaaW.PrintWords Go.Proofs.YtgcagmmghckbbaaW.PrintLast Go.Proofs.YtgcagmmghckbbaaW.PrintMore
structure VS where
  steps : Int
  found : List (List St)
  over : Bool
section
variable (tiles : List Tl) (w h most : Int)
def stopV (s : VS) : Bool := s.over || !decide ((s.found.length : Int) < most)
def usedV (layout : List St) (i : Nat) : Bool := layout.any fun x => x.f0 == (i : Int)
def againV (i t : Nat) : Bool := (List.range t).any fun u => decide (tup (turnT (tileAt tiles i) u) = tup (turnT (tileAt tiles i) t))
variable (visit : List St → List Tl → VS → VS) (layout : List St) (placed : List Tl)
/-- The turns of tile i from 4 - m on. -/
def turnsV (i : Nat) : Nat → VS → VS
  | 0, s => s
  | m + 1, s => if stopV most s then s else
      turnsV i m (if !againV tiles i (4 - (m + 1)) && fitsV placed (turnT (tileAt tiles i) (4 - (m + 1) : Nat)) w h then visit (layout ++ [⟨i, (4 - (m + 1) : Nat)⟩]) (placed ++ [turnT (tileAt tiles i) (4 - (m + 1) : Nat)]) s else s)
/-- The tiles from n - m on. -/
def tilesV : Nat → VS → VS
  | 0, s => s
  | m + 1, s => tilesV m (if usedV layout (tiles.length - (m + 1)) then s else turnsV tiles w h most visit layout placed (tiles.length - (m + 1)) 4 s)
end
/-- A step at which d places are left. -/
def visitV (tiles : List Tl) (w h most : Int) : Nat → List St → List Tl → VS → VS
  | d, layout, placed, s =>
    if s.steps + 1 > 5000 then ⟨s.steps + 1, s.found, true⟩ else
    match d with
    | 0 => ⟨s.steps + 1, s.found ++ [layout], s.over⟩
    | d + 1 => tilesV tiles w h most (visitV tiles w h most d) layout placed tiles.length ⟨s.steps + 1, s.found, s.over⟩
/-- What stays small. -/
def okV (s : VS) : Prop := 0 ≤ s.steps ∧ s.steps ≤ 5001 ∧ (s.found.length : Int) ≤ s.steps ∧ (s.over = false → s.steps ≤ 5000)
theorem turnsV_stop (tiles : List Tl) (w h most : Int) (visit : List St → List Tl → VS → VS) (layout : List St) (placed : List Tl) (i : Nat) (m : Nat) (s : VS) (hs : stopV most s = true) : turnsV tiles w h most visit layout placed i m s = s := by
  cases m with
  | zero => rfl
  | succ m => unfold turnsV; rw [if_pos hs]
end Go.Proofs.Ytgcagmmghckbbaa.A

/- The program's search for layouts, in plain words: a step and those behind it, for any visit. -/
namespace Go.Proofs.Ytgcagmmghckbbaa.A
set_option linter.unusedSimpArgs false
set_option linter.unusedVariables false
open Go.RowKit Go.Proofs.YtgcagmmghckbbaaW.PrintWords Go.Proofs.YtgcagmmghckbbaaW.PrintLast Go.Proofs.YtgcagmmghckbbaaW.PrintMore
structure LS (α : Type) where
  steps : Int
  ended : Bool
  broken : Bool
  a : α
def stopL {α : Type} (s : LS α) : Bool := s.ended || s.broken
section
variable {α : Type} (tiles : List Tl) (w h : Int) (sub : List Bool → List Tl → List St → LS α → LS α) (used : List Bool) (laid : List Tl) (layout : List St)
def skipL (i t : Nat) : Bool := used.getD i false || againV tiles i t || !fitsV laid (turnT (tileAt tiles i) t) w h
/-- The turns of tile i from 4 - m on. -/
def innerL (i : Nat) : Nat → LS α → LS α
  | 0, s => s
  | m + 1, s => if skipL tiles w h used laid i (4 - (m + 1)) then innerL i m s else
      let s' := sub (used.set i true) (laid ++ [turnT (tileAt tiles i) (4 - (m + 1) : Nat)]) (layout ++ [⟨i, (4 - (m + 1) : Nat)⟩]) s
      if stopL s' then s' else innerL i m s'
/-- The tiles from n - m on. -/
def outerL : Nat → LS α → LS α
  | 0, s => s
  | m + 1, s => let s' := innerL tiles w h sub used laid layout (tiles.length - (m + 1)) 4 s; if stopL s' then s' else outerL m s'
end
/-- A step at which d places are left. -/
def fromL {α : Type} (step : α → List St → α × Bool) (tiles : List Tl) (w h : Int) : Nat → List Bool → List Tl → List St → LS α → LS α
  | d, used, laid, layout, s =>
    if s.steps = 5000 then ⟨s.steps, s.ended, true, s.a⟩ else
    match d with
    | 0 => ⟨s.steps + 1, !(step s.a layout).2, s.broken, (step s.a layout).1⟩
    | d + 1 => outerL tiles w h (fromL step tiles w h d) used laid layout tiles.length ⟨s.steps + 1, s.ended, s.broken, s.a⟩
end Go.Proofs.Ytgcagmmghckbbaa.A
namespace Go.Proofs.Ytgcagmmghckbbaa.A
section
variable {α : Type} (tiles : List Tl) (w h : Int) (sub : List Bool → List Tl → List St → LS α → LS α) (used : List Bool) (laid : List Tl) (layout : List St)
theorem outerL_step (i : Nat) (hi : i < tiles.length) (s : LS α) : outerL tiles w h sub used laid layout (tiles.length - i) s =
    (if stopL (innerL tiles w h sub used laid layout i 4 s) = true then innerL tiles w h sub used laid layout i 4 s else outerL tiles w h sub used laid layout (tiles.length - (i + 1)) (innerL tiles w h sub used laid layout i 4 s)) := by
  have e : tiles.length - i = (tiles.length - (i + 1)) + 1 := by omega
  rw [e, outerL]
  have e2 : tiles.length - (tiles.length - (i + 1) + 1) = i := by omega
  rw [e2]
theorem innerL_step (i t : Nat) (ht : t < 4) (s : LS α) : innerL tiles w h sub used laid layout i (4 - t) s =
    (if skipL tiles w h used laid i t = true then innerL tiles w h sub used laid layout i (4 - (t + 1)) s else
      (if stopL (sub (used.set i true) (laid ++ [turnT (tileAt tiles i) t]) (layout ++ [⟨i, t⟩]) s) = true then sub (used.set i true) (laid ++ [turnT (tileAt tiles i) t]) (layout ++ [⟨i, t⟩]) s else
        innerL tiles w h sub used laid layout i (4 - (t + 1)) (sub (used.set i true) (laid ++ [turnT (tileAt tiles i) t]) (layout ++ [⟨i, t⟩]) s))) := by
  have e : 4 - t = (4 - (t + 1)) + 1 := by omega
  rw [e, innerL]
  have e2 : 4 - (4 - (t + 1) + 1) = t := by omega
  rw [e2]
theorem innerL_keep (p : LS α → Prop) (hp : ∀ u l y s, p s → p (sub u l y s)) (i : Nat) : ∀ (m : Nat) (s : LS α), p s → p (innerL tiles w h sub used laid layout i m s)
  | 0, s, hs => hs
  | m + 1, s, hs => by
    rw [innerL]
    split
    · exact innerL_keep p hp i m s hs
    · dsimp only
      split
      · exact hp _ _ _ _ hs
      · exact innerL_keep p hp i m _ (hp _ _ _ _ hs)
theorem outerL_keep (p : LS α → Prop) (hp : ∀ u l y s, p s → p (sub u l y s)) : ∀ (m : Nat) (s : LS α), p s → p (outerL tiles w h sub used laid layout m s)
  | 0, s, hs => hs
  | m + 1, s, hs => by
    rw [outerL]
    split
    · exact innerL_keep tiles w h sub used laid layout p hp _ 4 s hs
    · exact outerL_keep p hp m _ (innerL_keep tiles w h sub used laid layout p hp _ 4 s hs)
end
theorem fromL_steps {α : Type} (step : α → List St → α × Bool) (tiles : List Tl) (w h : Int) : ∀ (d : Nat) (used : List Bool) (laid : List Tl) (layout : List St) (s : LS α), (0 ≤ s.steps ∧ s.steps ≤ 5000) → (0 ≤ (fromL step tiles w h d used laid layout s).steps ∧ (fromL step tiles w h d used laid layout s).steps ≤ 5000)
  | 0, used, laid, layout, s, hs => by
    unfold fromL
    split
    · exact hs
    · dsimp only; omega
  | d + 1, used, laid, layout, s, hs => by
    unfold fromL
    split
    · exact hs
    · exact outerL_keep tiles w h _ used laid layout (fun s => 0 ≤ s.steps ∧ s.steps ≤ 5000) (fun u l y s hs => fromL_steps step tiles w h d u l y s hs) _ _ (by dsimp only; omega)
end Go.Proofs.Ytgcagmmghckbbaa.A
namespace Go.Proofs.Ytgcagmmghckbbaa.A
section
variable {α : Type} (tiles : List Tl) (w h : Int) (sub : List Bool → List Tl → List St → LS α → LS α) (used : List Bool) (laid : List Tl) (layout : List St)
/-- What is left behind the turns of tile i. -/
def contL (i : Nat) (z : LS α) : LS α := if stopL z = true then z else outerL tiles w h sub used laid layout (tiles.length - (i + 1)) z
variable {tiles w h sub used laid layout}
theorem cont_skip {i t : Nat} {s R : LS α} (ht : t < 4) (hR : contL tiles w h sub used laid layout i (innerL tiles w h sub used laid layout i (4 - t) s) = R) (hk : skipL tiles w h used laid i t = true) :
    contL tiles w h sub used laid layout i (innerL tiles w h sub used laid layout i (4 - (t + 1)) s) = R := by
  rw [innerL_step tiles w h sub used laid layout i t ht, if_pos hk] at hR
  exact hR
theorem cont_sub {i t : Nat} {s R : LS α} (ht : t < 4) (hR : contL tiles w h sub used laid layout i (innerL tiles w h sub used laid layout i (4 - t) s) = R) (hk : skipL tiles w h used laid i t = false) :
    (stopL (sub (used.set i true) (laid ++ [turnT (tileAt tiles i) t]) (layout ++ [⟨i, t⟩]) s) = true → sub (used.set i true) (laid ++ [turnT (tileAt tiles i) t]) (layout ++ [⟨i, t⟩]) s = R) ∧
    (stopL (sub (used.set i true) (laid ++ [turnT (tileAt tiles i) t]) (layout ++ [⟨i, t⟩]) s) = false → contL tiles w h sub used laid layout i (innerL tiles w h sub used laid layout i (4 - (t + 1)) (sub (used.set i true) (laid ++ [turnT (tileAt tiles i) t]) (layout ++ [⟨i, t⟩]) s)) = R) := by
  rw [innerL_step tiles w h sub used laid layout i t ht, if_neg (by rw [hk]; decide)] at hR
  refine ⟨fun hs => ?_, fun hs => ?_⟩
  · rw [if_pos hs] at hR
    unfold contL at hR
    rw [if_pos hs] at hR
    exact hR
  · rw [if_neg (by rw [hs]; decide)] at hR
    exact hR
end
end Go.Proofs.Ytgcagmmghckbbaa.A

/- The program's search and the reference's, both in plain words, go the same way. -/
namespace Go.Proofs.Ytgcagmmghckbbaa.A
set_option linter.unusedSimpArgs false
set_option linter.unusedVariables false
open Go.RowKit Go.Proofs.YtgcagmmghckbbaaW.PrintWords Go.Proofs.YtgcagmmghckbbaaW.PrintLast Go.Proofs.YtgcagmmghckbbaaW.PrintMore
section
variable {α : Type} (tiles : List Tl) (w h most : Int) (Rel : LS α → VS → Prop) (sub : List Bool → List Tl → List St → LS α → LS α) (visit : List St → List Tl → VS → VS) (used : List Bool) (laid : List Tl) (layout : List St)
theorem tilesV_stop (visit : List St → List Tl → VS → VS) : ∀ (m : Nat) (s : VS), stopV most s = true → tilesV tiles w h most visit layout laid m s = s
  | 0, s, hs => rfl
  | m + 1, s, hs => by
    unfold tilesV
    have e : (if usedV layout (tiles.length - (m + 1)) = true then s else turnsV tiles w h most visit layout laid (tiles.length - (m + 1)) 4 s) = s := by
      split
      · rfl
      · exact turnsV_stop tiles w h most visit layout laid _ 4 s hs
    rw [e]
    exact tilesV_stop visit m s hs
theorem innerL_used (i : Nat) (hu : used.getD i false = true) : ∀ (m : Nat) (r : LS α), innerL tiles w h sub used laid layout i m r = r
  | 0, r => rfl
  | m + 1, r => by
    unfold innerL
    rw [if_pos (by unfold skipL; rw [hu]; rfl)]
    exact innerL_used i hu m r
variable (hstop : ∀ r s, Rel r s → stopL r = stopV most s)
include hstop
theorem inner_rel (i : Nat) (hu : used.getD i false = false)
    (hsub : ∀ (t : Nat) (r : LS α) (s : VS), Rel r s → stopL r = false → Rel (sub (used.set i true) (laid ++ [turnT (tileAt tiles i) t]) (layout ++ [⟨i, t⟩]) r) (visit (layout ++ [⟨i, t⟩]) (laid ++ [turnT (tileAt tiles i) t]) s)) :
    ∀ (m : Nat) (r : LS α) (s : VS), Rel r s → stopL r = false → Rel (innerL tiles w h sub used laid layout i m r) (turnsV tiles w h most visit layout laid i m s)
  | 0, r, s, hr, hs => hr
  | m + 1, r, s, hr, hs => by
    unfold innerL turnsV
    rw [if_neg (show ¬ stopV most s = true by rw [← hstop r s hr, hs]; decide)]
    by_cases k : skipL tiles w h used laid i (4 - (m + 1)) = true
    · rw [if_pos k]
      have e : (!againV tiles i (4 - (m + 1)) && fitsV laid (turnT (tileAt tiles i) (4 - (m + 1) : Nat)) w h) = false := by
        unfold skipL at k
        rw [hu] at k
        revert k
        cases againV tiles i (4 - (m + 1)) <;> cases fitsV laid (turnT (tileAt tiles i) (4 - (m + 1) : Nat)) w h <;> simp
      rw [if_neg (by rw [e]; decide)]
      exact inner_rel i hu hsub m r s hr hs
    · rw [if_neg k]
      have e : (!againV tiles i (4 - (m + 1)) && fitsV laid (turnT (tileAt tiles i) (4 - (m + 1) : Nat)) w h) = true := by
        unfold skipL at k
        rw [hu] at k
        revert k
        cases againV tiles i (4 - (m + 1)) <;> cases fitsV laid (turnT (tileAt tiles i) (4 - (m + 1) : Nat)) w h <;> simp
      rw [if_pos e]
      have h2 := hsub (4 - (m + 1)) r s hr hs
      dsimp only
      by_cases st : stopL (sub (used.set i true) (laid ++ [turnT (tileAt tiles i) (4 - (m + 1) : Nat)]) (layout ++ [⟨i, (4 - (m + 1) : Nat)⟩]) r) = true
      · rw [if_pos st, turnsV_stop tiles w h most visit layout laid i m _ (by rw [← hstop _ _ h2]; exact st)]
        exact h2
      · rw [if_neg st]
        exact inner_rel i hu hsub m _ _ h2 (Bool.eq_false_iff.mpr st)
theorem outer_rel (hl : used.length = tiles.length) (hu : ∀ i, i < tiles.length → used.getD i false = usedV layout i)
    (hsub : ∀ (i t : Nat) (r : LS α) (s : VS), i < tiles.length → used.getD i false = false → Rel r s → stopL r = false → Rel (sub (used.set i true) (laid ++ [turnT (tileAt tiles i) t]) (layout ++ [⟨i, t⟩]) r) (visit (layout ++ [⟨i, t⟩]) (laid ++ [turnT (tileAt tiles i) t]) s)) :
    ∀ (m : Nat) (r : LS α) (s : VS), m ≤ tiles.length → Rel r s → stopL r = false → Rel (outerL tiles w h sub used laid layout m r) (tilesV tiles w h most visit layout laid m s)
  | 0, r, s, _, hr, hs => hr
  | m + 1, r, s, hm, hr, hs => by
    have hi : tiles.length - (m + 1) < tiles.length := by omega
    unfold outerL tilesV
    by_cases k : usedV layout (tiles.length - (m + 1)) = true
    · rw [if_pos k, innerL_used tiles w h sub used laid layout _ (by rw [hu _ hi]; exact k)]
      rw [if_neg (by rw [hs]; decide)]
      exact outer_rel hl hu hsub m r s (by omega) hr hs
    · rw [if_neg k]
      have k' : used.getD (tiles.length - (m + 1)) false = false := by rw [hu _ hi]; exact Bool.eq_false_iff.mpr k
      have h2 := inner_rel tiles w h most Rel sub visit used laid layout hstop (tiles.length - (m + 1)) k' (fun t r s hr hs => hsub _ t r s hi k' hr hs) 4 r s hr hs
      by_cases st : stopL (innerL tiles w h sub used laid layout (tiles.length - (m + 1)) 4 r) = true
      · rw [if_pos st, tilesV_stop tiles w h most laid layout visit m _ (by rw [← hstop _ _ h2]; exact st)]
        exact h2
      · rw [if_neg st]
        exact outer_rel hl hu hsub m _ _ (by omega) h2 (Bool.eq_false_iff.mpr st)
end
theorem used_next (tiles : List Tl) (used : List Bool) (layout : List St) (i t : Nat) (hl : used.length = tiles.length) (hi : i < tiles.length) (hu : ∀ j, j < tiles.length → used.getD j false = usedV layout j) :
    ∀ j, j < tiles.length → (used.set i true).getD j false = usedV (layout ++ [(⟨i, t⟩ : St)]) j := by
  intro j hj
  unfold usedV
  rw [List.any_append]
  have e := hu j hj
  unfold usedV at e
  rw [← e]
  by_cases c : i = j
  · subst c
    simp [List.getD, List.getElem?_set, hl, hi]
  · have c2 : ¬ ((i : Int) = (j : Int)) := by omega
    simp [List.getD, List.getElem?_set, c, c2]
theorem main_rel {α : Type} (step : α → List St → α × Bool) (tiles : List Tl) (w h most : Int) (Rel : LS α → VS → Prop) (hstop : ∀ r s, Rel r s → stopL r = stopV most s)
    (hsteps : ∀ r s, Rel r s → stopL r = false → r.steps = s.steps ∧ 0 ≤ s.steps ∧ s.steps ≤ 5000)
    (hlim : ∀ r s, Rel r s → stopL r = false → s.steps = 5000 → Rel ⟨r.steps, r.ended, true, r.a⟩ ⟨s.steps + 1, s.found, true⟩)
    (hleaf : ∀ r s layout, Rel r s → stopL r = false → s.steps < 5000 → Rel ⟨r.steps + 1, !(step r.a layout).2, r.broken, (step r.a layout).1⟩ ⟨s.steps + 1, s.found ++ [layout], s.over⟩)
    (hgo : ∀ r s, Rel r s → stopL r = false → s.steps < 5000 → Rel ⟨r.steps + 1, r.ended, r.broken, r.a⟩ ⟨s.steps + 1, s.found, s.over⟩) :
    ∀ (d : Nat) (used : List Bool) (laid : List Tl) (layout : List St) (r : LS α) (s : VS), used.length = tiles.length → (∀ i, i < tiles.length → used.getD i false = usedV layout i) → Rel r s → stopL r = false →
      Rel (fromL step tiles w h d used laid layout r) (visitV tiles w h most d layout laid s)
  | 0, used, laid, layout, r, s, hl, hu, hr, hs => by
    obtain ⟨e, h0, h1⟩ := hsteps r s hr hs
    unfold fromL visitV
    by_cases c : s.steps = 5000
    · rw [if_pos (by rw [e]; exact c), if_pos (by omega)]
      exact hlim r s hr hs c
    · rw [if_neg (by rw [e]; exact c), if_neg (by omega)]
      exact hleaf r s layout hr hs (by omega)
  | d + 1, used, laid, layout, r, s, hl, hu, hr, hs => by
    obtain ⟨e, h0, h1⟩ := hsteps r s hr hs
    unfold fromL visitV
    by_cases c : s.steps = 5000
    · rw [if_pos (by rw [e]; exact c), if_pos (by omega)]
      exact hlim r s hr hs c
    · rw [if_neg (by rw [e]; exact c), if_neg (by omega)]
      exact outer_rel tiles w h most Rel (fromL step tiles w h d) (visitV tiles w h most d) used laid layout hstop hl hu
        (fun i t r s hi hu0 hr hs => main_rel step tiles w h most Rel hstop hsteps hlim hleaf hgo d _ _ _ r s (by simp [hl]) (used_next tiles used layout i t hl hi hu) hr hs) tiles.length _ _ (Nat.le_refl _) (hgo r s hr hs (by omega)) (by unfold stopL at hs ⊢; exact hs)
end Go.Proofs.Ytgcagmmghckbbaa.A

/- Frames by types: below 'base' nothing turns, and from there on only blocks of the listed types. For functions that write through a pointer. -/
namespace Go.Proofs.YtgcagmmghckbbaaW.PrintMore
open Go.RowKit Go.Proofs.YtgcagmmghckbbaaW.PrintWords
structure Fr (base : Nat) (ts : List Nat) (w w' : World) : Prop where
  os : w'.os = w.os
  tape : w'.tape = w.tape
  output : w'.output = w.output
  size : w.heap.size ≤ w'.heap.size
  keep : ∀ k, k < w.heap.size → (k < base ∨ ∃ cells t fr, w.heap[k]? = some (.cells cells t fr) ∧ t ∉ ts) → w'.heap[k]? = w.heap[k]?
namespace Fr
variable {base : Nat} {ts : List Nat} {w w1 w2 : World}
theorem refl (base : Nat) (ts : List Nat) (w : World) : Fr base ts w w := ⟨rfl, rfl, rfl, Nat.le_refl _, fun _ _ _ => rfl⟩
theorem trans (h : Fr base ts w w1) (k : Fr base ts w1 w2) : Fr base ts w w2 :=
  ⟨k.os.trans h.os, k.tape.trans h.tape, k.output.trans h.output, Nat.le_trans h.size k.size, fun i hi hk => by
    have e := h.keep i hi hk
    refine (k.keep i (Nat.lt_of_lt_of_le hi h.size) ?_).trans e
    rcases hk with hk | ⟨c, t, fr, hc, ht⟩
    · exact .inl hk
    · exact .inr ⟨c, t, fr, e.trans hc, ht⟩⟩
theorem of_below (h : Below w.heap.size w w1) : Fr base ts w w1 := ⟨h.os, h.tape, h.output, h.size, fun i hi _ => h.block i hi⟩
theorem alloc (h : Fr base ts w w1) (o : Obj) : Fr base ts w (w1.alloc o) := h.trans (of_below (below_alloc (Below.refl _ _) o))
theorem drew (h : Fr base ts w w1) : Fr base ts w w1.drew := ⟨h.os, h.tape, h.output, h.size, h.keep⟩
theorem drewN (h : Fr base ts w w1) (n : Nat) : Fr base ts w (w1.drewN n) := ⟨h.os, h.tape, h.output, h.size, h.keep⟩
theorem set (h : Fr base ts w w1) {p : Addr} {cells : Array Value} {t : Nat} {fr : Nat × Nat} (hp : w1.heap[p.block]? = some (.cells cells t fr)) (ht : t ∈ ts) (hb : base ≤ p.block) (u : Value) : Fr base ts w (w1.setCell p u) :=
  h.trans ⟨rfl, rfl, rfl, by simp [World.setCell], fun i hi hk => Below.heap_setCell _ _ _ _ (by
    rintro rfl
    rcases hk with hk | ⟨c, t', fr', hc, ht'⟩
    · omega
    · rw [hp] at hc
      injection hc with hc
      injection hc with _ hc _
      exact ht' (hc ▸ ht))⟩
theorem grown (h : Fr base ts w w1) {row : Option Nat} (hg : w1.grownBy w2 row) (hr : ∀ k, row = some k → base ≤ k ∧ ∃ cells t fr, w1.heap[k]? = some (.cells cells t fr) ∧ t ∈ ts) : Fr base ts w w2 :=
  h.trans ⟨hg.os, hg.tape, hg.output, hg.size, fun i hi hk => hg.block i hi (fun e => by
    obtain ⟨hb, c, t, fr, hc, ht⟩ := hr i e.symm
    rcases hk with hk | ⟨c', t', fr', hc', ht'⟩
    · omega
    · rw [hc] at hc'
      injection hc' with hc'
      injection hc' with _ hc' _
      exact ht' (hc' ▸ ht))⟩
theorem below (h : Fr base ts w w1) {w0 : World} (hb : Below base w0 w) (hs : base ≤ w.heap.size) : Below base w0 w1 :=
  ⟨h.os.trans hb.os, h.tape.trans hb.tape, h.output.trans hb.output, Nat.le_trans hb.size h.size, fun i hi => (h.keep i (by omega) (.inl hi)).trans (hb.block i hi)⟩
theorem blk (h : Fr base ts w w1) {g : Nat} {cells : Array Value} {t : Nat} {fr : Nat × Nat} (hg : w.heap[g]? = some (.cells cells t fr)) (ht : t ∉ ts) : w1.heap[g]? = some (.cells cells t fr) :=
  (h.keep g (blk_lt hg) (.inr ⟨_, _, _, hg, ht⟩)).trans hg
theorem mono {ts' : List Nat} (h : Fr base ts w w1) (ht : ∀ t, t ∈ ts → t ∈ ts') : Fr base ts' w w1 :=
  ⟨h.os, h.tape, h.output, h.size, fun i hi hk => h.keep i hi (by
    rcases hk with hk | ⟨c, t, fr, hc, hn⟩
    · exact .inl hk
    · exact .inr ⟨c, t, fr, hc, fun hm => hn (ht t hm)⟩)⟩
end Fr
theorem R_typed {α : Type} {d : Kd α} {e b : Nat} {w : World} {ok : Nat → Prop} {v : Value} {xs : List α} (h : d.R e w b ok v xs) {ts : List Nat} (he : e ∈ ts) {base : Nat} (hb : base ≤ b) :
    ∀ k, v.ownBlock = some k → base ≤ k ∧ ∃ cells t fr, w.heap[k]? = some (.cells cells t fr) ∧ t ∈ ts := fun k hk => by
  obtain ⟨_, inner, ho, _⟩ := h
  obtain ⟨cells, hc⟩ := own_typed ho k hk
  exact ⟨Nat.le_trans hb (own_base ho k hk), cells, e, (0, 0), hc, he⟩
end Go.Proofs.YtgcagmmghckbbaaW.PrintMore

/- The reference's search for layouts as it stands in memory: a state whose found layouts are rows of its own. -/
namespace Go.Proofs.Ytgcagmmghckbbaa.A
open Go.RowKit Go.Proofs.YtgcagmmghckbbaaW.PrintWords Go.Proofs.YtgcagmmghckbbaaW.PrintLast Go.Proofs.YtgcagmmghckbbaaW.PrintMore
set_option linter.unusedVariables false
set_option linter.unusedSimpArgs false
theorem eqA24 (d : Nat) (w : World) (x0 y0 x1 y1 x2 y2 x3 y3 : Int) :
    (Op.equalIn (d + 2) 24 (.agg #[.int .i64 x0, .int .i64 x1, .int .i64 x2, .int .i64 x3]) (.agg #[.int .i64 y0, .int .i64 y1, .int .i64 y2, .int .i64 y3])).run Try.prog w = .ok (x0 == y0 && (x1 == y1 && (x2 == y2 && (x3 == y3)))) w := by
  refine eqA_of Try.underlying24 (by kernel_rfl) ?_
  refine eqf_cons (by rfl) (by go_simp; rfl) (by go_simp; rfl) (by go_simp) ?_
  refine eqf_cons (by rfl) (by go_simp; rfl) (by go_simp; rfl) (by go_simp) ?_
  refine eqf_cons (by rfl) (by go_simp; rfl) (by go_simp; rfl) (by go_simp) ?_
  exact eqf_last (by rfl) (by go_simp; rfl) (by go_simp; rfl) (by go_simp)
/-- The frame: but for block g and for rows of type 51 all that was there stays. -/
def KB (w W : World) (g : Nat) (row : Option Nat) : Prop := w.heap.size ≤ W.heap.size ∧ ∀ (i : Nat) (cs : Array Value) (t : Nat) (fr : Nat × Nat), i < w.heap.size → i ≠ g → w.heap[i]? = some (.cells cs t fr) → t ≠ 51 → W.heap[i]? = some (.cells cs t fr)
theorem KB.refl (w : World) (g : Nat) (row : Option Nat) : KB w w g row := ⟨Nat.le_refl _, fun _ _ _ _ _ _ h _ => h⟩
theorem KB.of {w W : World} {g : Nat} (h : KeepBut w W g none) : KB w W g none := ⟨h.1, fun i cs t fr hi hg hc _ => (h.2 i hi hg (by simp)).trans hc⟩
theorem KB.then {w w1 w2 : World} {g : Nat} (h : KB w w1 g none) (k : KB w1 w2 g none) : KB w w2 g none :=
  ⟨Nat.le_trans h.1 k.1, fun i cs t fr hi hg hc ht => k.2 i cs t fr (Nat.lt_of_lt_of_le hi h.1) hg (h.2 i cs t fr hi hg hc ht) ht⟩
theorem KB.trans {w w1 w2 : World} {g : Nat} {row1 : Option Nat} (h : KB w w1 g none) (k : KeepBut w1 w2 g row1) (hr : row1 = none ∨ ∃ b, row1 = some b ∧ w.heap.size ≤ b) : KB w w2 g none :=
  ⟨Nat.le_trans h.1 k.1, fun i cs t fr hi hg hc ht => (k.2 i (Nat.lt_of_lt_of_le hi h.1) hg (by
    rintro rfl
    rcases hr with hr | ⟨b, hb, hl⟩
    · cases hr
    · injection hb with hb; omega)).trans (h.2 i cs t fr hi hg hc ht)⟩
theorem KB.transS {w w1 w2 : World} {g S : Nat} {row1 : Option Nat} (h : KB w w1 g none) (k : KeepBut w1 w2 g row1) (hr : row1 = none ∨ ∃ b, row1 = some b ∧ S ≤ b) (hs : w.heap.size ≤ S) : KB w w2 g none :=
  KB.trans h k (hr.imp_right (fun ⟨b, hb, hl⟩ => ⟨b, hb, Nat.le_trans hs hl⟩))
theorem KB.set_ {w W : World} {g : Nat} (h : KB w W g none) (j : Nat) (u : Value) : KB w (W.setCell ⟨g, j, none⟩ u) g none :=
  ⟨by have := h.1; simpa [World.setCell] using this, fun i cs t fr hi hg hc ht => (Below.heap_setCell _ _ _ _ (by simpa using hg)).trans (h.2 i cs t fr hi hg hc ht)⟩
theorem kb_drewN {w W : World} {g : Nat} (h : KB w W g none) (m : Nat) : KB w (W.drewN m) g none := h
theorem kb_drew {w W : World} {g : Nat} (h : KB w W g none) : KB w W.drew g none := h
theorem kb_alloc {w W : World} {g : Nat} (h : KB w W g none) (o : Obj) : KB w (W.alloc o) g none := h.trans (KeepBut.of_grown (World.grownBy_alloc W o none) g) (.inl rfl)
theorem kb_far {w W : World} {g : Nat} (h : KB w W g none) {p : Addr} (hp : w.heap.size ≤ p.block) (u : Value) : KB w (W.setCell p u) g none :=
  ⟨by have := h.1; simpa [World.setCell] using this, fun i cs t fr hi hg hc ht => (Below.heap_setCell _ _ _ _ (by omega)).trans (h.2 i cs t fr hi hg hc ht)⟩
theorem kb_size {w W : World} {g : Nat} {row : Option Nat} (h : KB w W g row) : w.heap.size ≤ W.heap.size := h.1
/-- Rows of type 51 may turn. -/
theorem KB.rows {w w1 w2 : World} {g : Nat} {row : Option Nat} (h : KB w w1 g none) (k : w1.grownBy w2 row) (hr : ∀ b, row = some b → ∃ cells, w1.heap[b]? = some (.cells cells 51 (0, 0))) : KB w w2 g none :=
  ⟨Nat.le_trans h.1 k.size, fun i cs t fr hi hg hc ht => (k.block i (Nat.lt_of_lt_of_le hi h.1) (by
    intro he
    obtain ⟨cells, hb⟩ := hr i he.symm
    rw [h.2 i cs t fr hi hg hc ht] at hb
    injection hb with hb
    injection hb with _ hb _
    exact ht hb)).trans (h.2 i cs t fr hi hg hc ht)⟩
theorem KB.blk {w W : World} {g g' : Nat} {cs : Array Value} {t : Nat} (h : KB w W g none) (hb : w.heap[g']? = some (.cells cs t (0, 0))) (hg : g' ≠ g) (ht : t ≠ 51) : W.heap[g']? = some (.cells cs t (0, 0)) := h.2 g' cs t (0, 0) (blk_lt hb) hg hb ht
theorem kbR_keep {α : Type} {d : Kd α} {e base : Nat} {w w1 : World} {ok : Nat → Prop} {v : Value} {xs : List α} (h : d.R e w base ok v xs) {g : Nat} (hk : KB w w1 g none) (hok : ∀ k, ok k → k ≠ g) (ht : ∀ q, q ∈ e :: d.E → q ≠ 51) : d.R e w1 base ok v xs :=
  Kd.R_mono (Kd.R_move (Kd.R_bound h) (fun k hk' => by
    obtain ⟨h1, _, h3, q, hq, cells, hc⟩ := hk'
    exact (hk.2 k cells q (0, 0) h3 (hok k h1) hc (ht q hq)).trans hc.symm)) (fun _ hk' => hk'.1)
theorem kbC_foot_own {α : Type} {d : Kd α} {e base : Nat} {W : World} {ok : Nat → Prop} {A : Option Addr} {n c g : Nat} {xs : List α} (h : d.R e W base ok (.slice A n c) xs) (hok : ∀ k, ok k → k ≠ g) (ht : ∀ q, q ∈ e :: d.E → q ≠ 51) : ∀ W', KB W W' g none → d.C W' A n xs := fun W' hk => by
  have h2 := Kd.R_reads' (kbR_keep h hk hok ht)
  exact (Kd.C_foot_own (kbR_keep h hk hok ht) hok) W' (KeepBut.refl _ _ _)
theorem kbC_foot_now {α : Type} {d : Kd α} {w W : World} {A : Option Addr} {n g : Nat} {xs : List α} (h : ∀ W', KB w W' g none → d.C W' A n xs) (hk : KB w W g none) : d.C W A n xs := h W hk
theorem info51 : (Try.prog.info? 51).map (fun i => (i.zero, i.size, i.bytes)) = some (some (.slice none 0 0), 1, 24) := by kernel_rfl
abbrev kF : Kd (List (S74)) := Kd.slice 74 k74
theorem kF_types : ∀ q, q ∈ 51 :: kF.E → q = 51 ∨ q = 74 := by decide
/-- A row that lies there, and one that is made: the blocks differ. -/
theorem L_new {α : Type} {d : Kd α} {e base : Nat} {w w1 : World} {ok : Nat → Prop} {v u : Value} {xs : List α} (h : d.R e w base ok v xs) (hb : Below w.heap.size w w1) (hu : ∃ b, u.ownBlock = some b ∧ w.heap.size ≤ b) : d.R e w1 base (fun k => ok k ∧ some k ≠ u.ownBlock) v xs :=
  Kd.R_mono (Kd.R_below (Kd.R_bound h) hb) (fun k hk => ⟨hk.1, fun he => by
    obtain ⟨b, hb, hl⟩ := hu
    rw [hb] at he
    injection he with he
    have := hk.2.2.1
    omega⟩)
/-- A row under growth of a block that is none of its own. -/
theorem R_grown {α : Type} {d : Kd α} {e base : Nat} {w w1 : World} {ok : Nat → Prop} {v : Value} {xs : List α} {row : Option Nat} (h : d.R e w base ok v xs) (hg : w.grownBy w1 row) (hok : ∀ k, ok k → some k ≠ row) : d.R e w1 base ok v xs :=
  Kd.R_step h (fun k ho hlt => hg.block k hlt (hok k ho))
/-- A state of type 84 at block g of W; its found layouts lie in blocks of its own. -/
def IsV (ok : Nat → Prop) (w0 W : World) (g : Nat) (f0 : List (S24)) (f1 : Int) (f2 : Int) (f3 : Int) (f4 : List (List (S74))) (f5 : Int) (f6 : Bool) : Prop :=
  ∃ A0 c0 A4 c4, W.heap[g]? = some (.cells #[.slice A0 f0.length c0, .int .i64 f1, .int .i64 f2, .int .i64 f3, .slice A4 f4.length c4, .int .i64 f5, .bool f6] 84 (0, 0)) ∧ w0.heap.size ≤ g ∧ Kd.C k24 w0 A0 f0.length f0 ∧ Kd.R kF 51 W w0.heap.size ok (.slice A4 f4.length c4) f4
section
variable {ok : Nat → Prop} {w0 W : World} {g : Nat} {f0 : List (S24)} {f1 : Int} {f2 : Int} {f3 : Int} {f4 : List (List (S74))} {f5 : Int} {f6 : Bool}
theorem IsV.mono {ok' : Nat → Prop} (h : IsV ok w0 W g f0 f1 f2 f3 f4 f5 f6) (hok : ∀ k, ok k → ok' k) : IsV ok' w0 W g f0 f1 f2 f3 f4 f5 f6 := by
  obtain ⟨A0, c0, A4, c4, hb, hg, hr0, hf⟩ := h
  exact ⟨A0, c0, A4, c4, hb, hg, hr0, Kd.R_mono hf hok⟩
theorem IsV.bound (h : IsV ok w0 W g f0 f1 f2 f3 f4 f5 f6) : IsV (fun k => k < W.heap.size) w0 W g f0 f1 f2 f3 f4 f5 f6 := by
  obtain ⟨A0, c0, A4, c4, hb, hg, hr0, hf⟩ := h
  exact ⟨A0, c0, A4, c4, hb, hg, hr0, Kd.R_mono (Kd.R_bound hf) (fun _ h => h.2.2.1)⟩
theorem IsV.grown {W1 : World} {row : Option Nat} (h : IsV ok w0 W g f0 f1 f2 f3 f4 f5 f6) (hw : W.grownBy W1 row) (hne : some g ≠ row) (hr : ∀ k, ok k → some k ≠ row) : IsV ok w0 W1 g f0 f1 f2 f3 f4 f5 f6 := by
  obtain ⟨A0, c0, A4, c4, hb, hg, hr0, hf⟩ := h
  exact ⟨A0, c0, A4, c4, blk_grown hb hw hne, hg, hr0, R_grown hf hw hr⟩
theorem IsV.below {W1 : World} (h : IsV ok w0 W g f0 f1 f2 f3 f4 f5 f6) (hw : Below W.heap.size W W1) : IsV ok w0 W1 g f0 f1 f2 f3 f4 f5 f6 := h.grown (grown_of_below hw none) (by simp) (by simp)
theorem IsV.alloc (h : IsV ok w0 W g f0 f1 f2 f3 f4 f5 f6) (o : Obj) : IsV ok w0 (W.alloc o) g f0 f1 f2 f3 f4 f5 f6 := h.below (below_alloc (Below.refl _ _) o)
theorem IsV.drewN (h : IsV ok w0 W g f0 f1 f2 f3 f4 f5 f6) (m : Nat) : IsV ok w0 (W.drewN m) g f0 f1 f2 f3 f4 f5 f6 := h.below (pw_below_drewN (Below.refl _ _) m)
theorem IsV.drew (h : IsV ok w0 W g f0 f1 f2 f3 f4 f5 f6) : IsV ok w0 W.drew g f0 f1 f2 f3 f4 f5 f6 := h.below (below_drew (Below.refl _ _))
theorem IsV.apart {α : Type} {d : Kd α} {e : Nat} {base : Nat} {ok' : Nat → Prop} {v : Value} {xs : List α} (h : IsV ok w0 W g f0 f1 f2 f3 f4 f5 f6) (ho : d.R e W base ok' v xs) (ht : ∀ q, q ∈ e :: d.E → q ≠ 84) : d.R e W base (fun k => ok' k ∧ k ≠ g) v xs := by
  obtain ⟨A0, c0, A4, c4, hb, hg, hr0, hf⟩ := h
  exact Kd.R_types ho hb ht
theorem IsV.own_ne {α : Type} {d : Kd α} {e : Nat} {base : Nat} {ok' : Nat → Prop} {v : Value} {xs : List α} (h : IsV ok w0 W g f0 f1 f2 f3 f4 f5 f6) (ho : d.R e W base ok' v xs) (ht : e ≠ 84) : some g ≠ v.ownBlock := by
  obtain ⟨A0, c0, A4, c4, hb, hg, hr0, hf⟩ := h
  exact Kd.R_ne ho hb ht
theorem IsV.fresh (h : IsV ok w0 W g f0 f1 f2 f3 f4 f5 f6) : ∀ k, W.heap.size ≤ k → k ≠ g := by
  obtain ⟨A0, c0, A4, c4, hb, hg, hr0, hf⟩ := h
  exact Kd.freshB hb
theorem IsV.lt (h : IsV ok w0 W g f0 f1 f2 f3 f4 f5 f6) : g < W.heap.size := by
  obtain ⟨A0, c0, A4, c4, hb, hg, hr0, hf⟩ := h
  exact blk_lt hb
theorem IsV.ge (h : IsV ok w0 W g f0 f1 f2 f3 f4 f5 f6) : w0.heap.size ≤ g := by
  obtain ⟨A0, c0, A4, c4, hb, hg, hr0, hf⟩ := h
  exact hg
/-- A store into a block that is neither the state nor one of its rows (told by the type). -/
theorem IsV.far {p : Addr} {cs : Array Value} {t : Nat} (h : IsV ok w0 W g f0 f1 f2 f3 f4 f5 f6) (hne : g ≠ p.block) (hp : W.heap[p.block]? = some (.cells cs t (0, 0))) (h1 : t ≠ 51) (h2 : t ≠ 74) (u : Value) : IsV ok w0 (W.setCell p u) g f0 f1 f2 f3 f4 f5 f6 := by
  obtain ⟨A0, c0, A4, c4, hb, hg, hr0, hf⟩ := h
  refine ⟨A0, c0, A4, c4, blk_far hb hne u, hg, hr0, Kd.R_mono (Kd.R_far (Kd.R_types hf hp (fun q hq => ?_)) (fun k hk => hk.2) u) (fun _ hk => hk.1)⟩
  rcases kF_types q hq with rfl | rfl
  · exact Ne.symm h1
  · exact Ne.symm h2
theorem IsV.self {A0 : Option Addr} {c0 : Nat} {A4 : Option Addr} {c4 : Nat} (hb : W.heap[g]? = some (.cells #[.slice A0 f0.length c0, .int .i64 f1, .int .i64 f2, .int .i64 f3, .slice A4 f4.length c4, .int .i64 f5, .bool f6] 84 (0, 0))) (hf : Kd.R kF 51 W w0.heap.size ok (.slice A4 f4.length c4) f4) (j : Nat) (u : Value) :
    Kd.R kF 51 (W.setCell ⟨g, j, none⟩ u) w0.heap.size ok (.slice A4 f4.length c4) f4 :=
  Kd.R_mono (Kd.R_far (p := ⟨g, j, none⟩) (Kd.R_types hf hb (by decide)) (fun k hk => hk.2) u) (fun _ hk => hk.1)
theorem IsV.set_3 (h : IsV ok w0 W g f0 f1 f2 f3 f4 f5 f6) (x : Int) : IsV ok w0 (W.setCell ⟨g, 3, none⟩ (.int .i64 x)) g f0 f1 f2 x f4 f5 f6 := by
  obtain ⟨A0, c0, A4, c4, hb, hg, hr0, hf⟩ := h
  exact ⟨A0, c0, A4, c4, by simpa using blk_set hb 3 (.int .i64 x), hg, hr0, IsV.self hb hf 3 _⟩
theorem IsV.set_6 (h : IsV ok w0 W g f0 f1 f2 f3 f4 f5 f6) (x : Bool) : IsV ok w0 (W.setCell ⟨g, 6, none⟩ (.bool x)) g f0 f1 f2 f3 f4 f5 x := by
  obtain ⟨A0, c0, A4, c4, hb, hg, hr0, hf⟩ := h
  exact ⟨A0, c0, A4, c4, by simpa using blk_set hb 6 (.bool x), hg, hr0, IsV.self hb hf 6 _⟩
theorem IsV.store4 {b : Nat} {cs : Array Value} {t : Nat} (h : IsV ok w0 W g f0 f1 f2 f3 f4 f5 f6) (hne : g ≠ b) (hb : W.heap[b]? = some (.cells cs t (0, 0))) (h1 : t ≠ 51) (h2 : t ≠ 74) (u0 u1 u2 u3 : Value) :
    IsV ok w0 ((((W.setCell ⟨b, 0, none⟩ u0).setCell ⟨b, 1, none⟩ u1).setCell ⟨b, 2, none⟩ u2).setCell ⟨b, 3, none⟩ u3) g f0 f1 f2 f3 f4 f5 f6 := by
  have k0 := blk_set hb 0 u0
  have k1 := blk_set k0 1 u1
  have k2 := blk_set k1 2 u2
  exact IsV.far (p := ⟨b, 3, none⟩) (IsV.far (p := ⟨b, 2, none⟩) (IsV.far (p := ⟨b, 1, none⟩) (IsV.far (p := ⟨b, 0, none⟩) h hne hb h1 h2 u0) hne k0 h1 h2 u1) hne k1 h1 h2 u2) hne k2 h1 h2 u3
theorem IsV.set_4 {A0 : Option Addr} {c0 : Nat} {A4 : Option Addr} {c4 : Nat} {A9 : Option Addr} {c9 n : Nat} {f9 : List (List (S74))} (hb : W.heap[g]? = some (.cells #[.slice A0 f0.length c0, .int .i64 f1, .int .i64 f2, .int .i64 f3, .slice A4 n c4, .int .i64 f5, .bool f6] 84 (0, 0))) (hg : w0.heap.size ≤ g) (hC : Kd.C k24 w0 A0 f0.length f0) (hf : Kd.R kF 51 W w0.heap.size ok (.slice A9 f9.length c9) f9) :
    IsV ok w0 (W.setCell ⟨g, 4, none⟩ (.slice A9 f9.length c9)) g f0 f1 f2 f3 f9 f5 f6 :=
  ⟨A0, c0, A9, c9, by simpa using blk_set hb 4 (.slice A9 f9.length c9), hg, hC, Kd.R_mono (Kd.R_far (p := ⟨g, 4, none⟩) (Kd.R_types hf hb (by decide)) (fun k hk => hk.2) _) (fun _ hk => hk.1)⟩
end
/-- As it stands at any time. -/
abbrev IsS84 (w0 W : World) (g : Nat) (f0 : List (S24)) (f1 : Int) (f2 : Int) (f3 : Int) (f4 : List (List (S74))) (f5 : Int) (f6 : Bool) : Prop := IsV (fun _ => True) w0 W g f0 f1 f2 f3 f4 f5 f6
/-- As it stands while rows that are younger than S are made beside it. -/
def IsB (S : Nat) (w0 W : World) (g : Nat) (f0 : List (S24)) (f1 : Int) (f2 : Int) (f3 : Int) (f4 : List (List (S74))) (f5 : Int) (f6 : Bool) : Prop := IsV (fun k => k < S) w0 W g f0 f1 f2 f3 f4 f5 f6 ∧ S ≤ W.heap.size
section
variable {S : Nat} {w0 W : World} {g : Nat} {f0 : List (S24)} {f1 : Int} {f2 : Int} {f3 : Int} {f4 : List (List (S74))} {f5 : Int} {f6 : Bool}
theorem IsB.of (h : IsS84 w0 W g f0 f1 f2 f3 f4 f5 f6) : IsB W.heap.size w0 W g f0 f1 f2 f3 f4 f5 f6 := ⟨h.bound, Nat.le_refl _⟩
theorem IsB.weak (h : IsB S w0 W g f0 f1 f2 f3 f4 f5 f6) : IsS84 w0 W g f0 f1 f2 f3 f4 f5 f6 := h.1.mono (fun _ _ => trivial)
theorem IsB.size (h : IsB S w0 W g f0 f1 f2 f3 f4 f5 f6) : S ≤ W.heap.size := h.2
theorem IsB.grown {W1 : World} {row : Option Nat} (h : IsB S w0 W g f0 f1 f2 f3 f4 f5 f6) (hw : W.grownBy W1 row) (hne : some g ≠ row) (hr : row = none ∨ ∃ b, row = some b ∧ S ≤ b) : IsB S w0 W1 g f0 f1 f2 f3 f4 f5 f6 :=
  ⟨h.1.grown hw hne (fun k hk he => by
    rcases hr with hr | ⟨b, hb, hl⟩
    · rw [hr] at he; cases he
    · rw [hb] at he; injection he with he; omega), Nat.le_trans h.2 hw.size⟩
theorem IsB.below {W1 : World} (h : IsB S w0 W g f0 f1 f2 f3 f4 f5 f6) (hw : Below W.heap.size W W1) : IsB S w0 W1 g f0 f1 f2 f3 f4 f5 f6 := ⟨h.1.below hw, Nat.le_trans h.2 hw.size⟩
theorem IsB.apart {α : Type} {d : Kd α} {e : Nat} {base : Nat} {ok' : Nat → Prop} {v : Value} {xs : List α} (h : IsB S w0 W g f0 f1 f2 f3 f4 f5 f6) (ho : d.R e W base ok' v xs) (ht : ∀ q, q ∈ e :: d.E → q ≠ 84) : d.R e W base (fun k => ok' k ∧ k ≠ g) v xs := h.1.apart ho ht
theorem IsB.own_ne {α : Type} {d : Kd α} {e : Nat} {base : Nat} {ok' : Nat → Prop} {v : Value} {xs : List α} (h : IsB S w0 W g f0 f1 f2 f3 f4 f5 f6) (ho : d.R e W base ok' v xs) (ht : e ≠ 84) : some g ≠ v.ownBlock := h.1.own_ne ho ht
theorem IsB.ge (h : IsB S w0 W g f0 f1 f2 f3 f4 f5 f6) : w0.heap.size ≤ g := h.1.ge
end
section
variable {W : World} {g : Nat} {A0 : Option Addr} {c0 : Nat} {A4 : Option Addr} {c4 : Nat} {f0 : List (S24)} {f1 : Int} {f2 : Int} {f3 : Int} {f4 : List (List (S74))} {f5 : Int} {f6 : Bool}
theorem cellS84_0 (h : W.heap[g]? = some (.cells #[.slice A0 f0.length c0, .int .i64 f1, .int .i64 f2, .int .i64 f3, .slice A4 f4.length c4, .int .i64 f5, .bool f6] 84 (0, 0))) : W.cell? ⟨g, 0, none⟩ = some (.slice A0 f0.length c0) := (blk_cell h 0).trans rfl
theorem cellS84_1 (h : W.heap[g]? = some (.cells #[.slice A0 f0.length c0, .int .i64 f1, .int .i64 f2, .int .i64 f3, .slice A4 f4.length c4, .int .i64 f5, .bool f6] 84 (0, 0))) : W.cell? ⟨g, 1, none⟩ = some (.int .i64 f1) := (blk_cell h 1).trans rfl
theorem cellS84_2 (h : W.heap[g]? = some (.cells #[.slice A0 f0.length c0, .int .i64 f1, .int .i64 f2, .int .i64 f3, .slice A4 f4.length c4, .int .i64 f5, .bool f6] 84 (0, 0))) : W.cell? ⟨g, 2, none⟩ = some (.int .i64 f2) := (blk_cell h 2).trans rfl
theorem cellS84_3 (h : W.heap[g]? = some (.cells #[.slice A0 f0.length c0, .int .i64 f1, .int .i64 f2, .int .i64 f3, .slice A4 f4.length c4, .int .i64 f5, .bool f6] 84 (0, 0))) : W.cell? ⟨g, 3, none⟩ = some (.int .i64 f3) := (blk_cell h 3).trans rfl
theorem cellS84_4 (h : W.heap[g]? = some (.cells #[.slice A0 f0.length c0, .int .i64 f1, .int .i64 f2, .int .i64 f3, .slice A4 f4.length c4, .int .i64 f5, .bool f6] 84 (0, 0))) : W.cell? ⟨g, 4, none⟩ = some (.slice A4 f4.length c4) := (blk_cell h 4).trans rfl
theorem cellS84_5 (h : W.heap[g]? = some (.cells #[.slice A0 f0.length c0, .int .i64 f1, .int .i64 f2, .int .i64 f3, .slice A4 f4.length c4, .int .i64 f5, .bool f6] 84 (0, 0))) : W.cell? ⟨g, 5, none⟩ = some (.int .i64 f5) := (blk_cell h 5).trans rfl
theorem cellS84_6 (h : W.heap[g]? = some (.cells #[.slice A0 f0.length c0, .int .i64 f1, .int .i64 f2, .int .i64 f3, .slice A4 f4.length c4, .int .i64 f5, .bool f6] 84 (0, 0))) : W.cell? ⟨g, 6, none⟩ = some (.bool f6) := (blk_cell h 6).trans rfl
end
end Go.Proofs.Ytgcagmmghckbbaa.A

/- The program's search for layouts as it stands in memory. -/
namespace Go.Proofs.Ytgcagmmghckbbaa.A
open Go.RowKit Go.Proofs.YtgcagmmghckbbaaW.PrintWords Go.Proofs.YtgcagmmghckbbaaW.PrintLast Go.Proofs.YtgcagmmghckbbaaW.PrintMore
set_option linter.unusedVariables false
set_option linter.unusedSimpArgs false
section
variable {P : Program} {ops : Array Oper} {Q : Exit → Act → World → Prop}
/-- A call of a function that lies in a slot, with what it has captured, as one step of a region that draws. -/
theorem goesV_ {oi : Oper} {N : Option Tmp} {a : Act} {w : World} {K : Act → World → Prop} {f : FuncId} {fn : Func} {caps : Array Value} {az : Array Operand} {ts : Array TypeId} {x : Operand} (hf : P.funcs[f]? = some fn) (hname : (fn.name == "runtime.NumGoroutine") = false) (hb : fn.body.isSome = true) (args : Array Value)
    (hw : Region.wanted oi (yielded ops a.tmps) = true) (hN : oi.dst = N) (hop : oi.op = .call { callee := .value x, args := az, argTypes := ts }) (hx : a.eval x = .func (.func f) #[] caps) (hargs : az.map a.eval = args)
    (h : Calls P f (args ++ caps) w fun e w' => ∃ v, e = .returned v ∧ K (a.put N v) w') : if Region.wanted oi (yielded ops a.tmps) = true then Oper.wp P oi a w K Q else K (a.put N undef) w := by
  refine call_ f (args ++ caps) hw hN ?_ h
  have he := enters_ hf hname hb (args ++ caps) w
  unfold execOp
  simp [hop, resolve, Deferred.ofValue, invoke, hx, hargs, he]
end
/-- The search at block g of W. -/
def IsLay (w0 W : World) (g : Nat) (vf : Value) (tiles : List Tl) (wd h : Int) (used : List Bool) (laid : List Tl) (layout : List St) (steps : Int) (ended broken : Bool) : Prop :=
  ∃ A0 c0 Au cu Al cl Ay cy, W.heap[g]? = some (.cells #[.slice A0 tiles.length c0, .int .i64 wd, .int .i64 h, .slice Au used.length cu, .slice Al laid.length cl, .slice Ay layout.length cy, .int .i64 steps, vf, .bool ended, .bool broken] 92 (0, 0)) ∧ w0.heap.size ≤ g ∧
    Kd.C k24 w0 A0 tiles.length tiles ∧ Kd.R Kd.bool 4 W w0.heap.size (fun _ => True) (.slice Au used.length cu) used ∧ Kd.R k24 24 W w0.heap.size (fun _ => True) (.slice Al laid.length cl) laid ∧ Kd.R k74 74 W w0.heap.size (fun _ => True) (.slice Ay layout.length cy) layout
/-- What is known of the function that is visited: its number, what it has captured, what it does to what it has captured. 'Vis a ended W': what it has captured stands at a. -/
structure VisOk {α : Type} (Vis : α → Bool → World → Prop) (w0 : World) (vf : Value) (step : α → List St → α × Bool) : Prop where
  below : ∀ {a b W W'}, Vis a b W → Below W.heap.size W W' → Vis a b W'
  set : ∀ {a b W} {p : Addr} {cs : Array Value} {t : Nat} (u : Value), Vis a b W → W.heap[p.block]? = some (.cells cs t (0, 0)) → (t = 92 ∨ t = 4 ∨ t = 24) → Vis a b (W.setCell p u)
  grown : ∀ {a W W' row}, Vis a false W → W.grownBy W' row → (∀ k, row = some k → ∃ cs t, W.heap[k]? = some (.cells cs t (0, 0)) ∧ (t = 24 ∨ t = 74)) → Vis a false W'
  call : ∃ f fn caps, vf = .func (.func f) #[] caps ∧ Try.prog.funcs[f]? = some fn ∧ (fn.name == "runtime.NumGoroutine") = false ∧ fn.body.isSome = true ∧
    ∀ (a : α) (layout : List St) (A : Option Addr) (c : Nat) (W : World), Vis a false W → Below w0.heap.size w0 W → Kd.R k74 74 W w0.heap.size (fun _ => True) (.slice A layout.length c) layout → layout.length ≤ 12 →
      Calls Try.prog f (#[.slice A layout.length c] ++ caps) W fun e w' => e = .returned (.bool (step a layout).2) ∧ Vis (step a layout).1 (!(step a layout).2) w' ∧ Below w0.heap.size w0 w' ∧ ∃ gn, KeepBut W w' gn none ∧ ∃ cs t, W.heap[gn]? = some (.cells cs t (0, 0)) ∧ (t = 2 ∨ t = 51)
section
variable {w0 W W1 : World} {g : Nat} {vf : Value} {tiles : List Tl} {wd h : Int} {used : List Bool} {laid : List Tl} {layout : List St} {steps : Int} {ended broken : Bool}
theorem IsLay.move (hI : IsLay w0 W g vf tiles wd h used laid layout steps ended broken) (hm : ∀ (k : Nat) (cs : Array Value) (t : Nat), k < W.heap.size → W.heap[k]? = some (.cells cs t (0, 0)) → (t = 92 ∨ t = 4 ∨ t = 24 ∨ t = 74) → W1.heap[k]? = some (.cells cs t (0, 0))) : IsLay w0 W1 g vf tiles wd h used laid layout steps ended broken := by
  obtain ⟨A0, c0, Au, cu, Al, cl, Ay, cy, hb, hg, hC, hu, hl, hy⟩ := hI
  have mv : ∀ {α : Type} {d : Kd α} {e : Nat} {v : Value} {xs : List α}, d.R e W w0.heap.size (fun _ => True) v xs → (∀ q, q ∈ e :: d.E → q = 92 ∨ q = 4 ∨ q = 24 ∨ q = 74) → d.R e W1 w0.heap.size (fun _ => True) v xs := by
    intro α d e v xs hR hq
    refine Kd.R_mono (Kd.R_move (Kd.R_bound hR) (fun k hk => ?_)) (fun _ _ => trivial)
    obtain ⟨_, _, h3, q, hq', cells, hc⟩ := hk
    exact (hm k cells q h3 hc (hq q hq')).trans hc.symm
  exact ⟨A0, c0, Au, cu, Al, cl, Ay, cy, hm g _ _ (blk_lt hb) hb (.inl rfl), hg, hC, mv hu (by decide), mv hl (by decide), mv hy (by decide)⟩
theorem IsLay.below (hI : IsLay w0 W g vf tiles wd h used laid layout steps ended broken) (hb : Below W.heap.size W W1) : IsLay w0 W1 g vf tiles wd h used laid layout steps ended broken :=
  hI.move (fun k cs t hk hc _ => (hb.block k hk).trans hc)
theorem IsLay.keep (hI : IsLay w0 W g vf tiles wd h used laid layout steps ended broken) {gn : Nat} (hk : KeepBut W W1 gn none) (hn : ∃ cs t, W.heap[gn]? = some (.cells cs t (0, 0)) ∧ (t = 2 ∨ t = 51)) : IsLay w0 W1 g vf tiles wd h used laid layout steps ended broken :=
  hI.move (fun k cs t hlt hc ht => (hk.2 k hlt (by
    rintro rfl
    obtain ⟨cs', t', hc', ht'⟩ := hn
    rw [hc] at hc'
    injection hc' with hc'
    injection hc' with _ hc' _
    subst hc'
    revert ht ht'
    intro ht ht'
    rcases ht' with rfl | rfl <;> revert ht <;> decide) (by simp)).trans hc)
theorem IsLay.ge (hI : IsLay w0 W g vf tiles wd h used laid layout steps ended broken) : w0.heap.size ≤ g := by
  obtain ⟨A0, c0, Au, cu, Al, cl, Ay, cy, hb, hg, _⟩ := hI
  exact hg
theorem IsLay.drew (hI : IsLay w0 W g vf tiles wd h used laid layout steps ended broken) : IsLay w0 W.drew g vf tiles wd h used laid layout steps ended broken := hI.below (below_drew (Below.refl _ _))
theorem IsLay.drewN (hI : IsLay w0 W g vf tiles wd h used laid layout steps ended broken) (m : Nat) : IsLay w0 (W.drewN m) g vf tiles wd h used laid layout steps ended broken := hI.below (pw_below_drewN (Below.refl _ _) m)
/-- A store into the search's own block leaves its rows. -/
theorem lay_self {A0 : Option Addr} {cs : Array Value} (hb : W.heap[g]? = some (.cells cs 92 (0, 0))) {α : Type} {d : Kd α} {e base : Nat} {ok : Nat → Prop} {v : Value} {xs : List α} (hR : d.R e W base ok v xs) (ht : ∀ q, q ∈ e :: d.E → q ≠ 92) (j : Nat) (u : Value) : d.R e (W.setCell ⟨g, j, none⟩ u) base ok v xs :=
  Kd.R_mono (Kd.R_far (p := ⟨g, j, none⟩) (Kd.R_types hR hb ht) (fun _ hk => hk.2) u) (fun _ hk => hk.1)
theorem IsLay.set6 (hI : IsLay w0 W g vf tiles wd h used laid layout steps ended broken) (x : Int) : IsLay w0 (W.setCell ⟨g, 6, none⟩ (.int .i64 x)) g vf tiles wd h used laid layout x ended broken := by
  obtain ⟨A0, c0, Au, cu, Al, cl, Ay, cy, hb, hg, hC, hu, hl, hy⟩ := hI
  exact ⟨A0, c0, Au, cu, Al, cl, Ay, cy, by simpa using blk_set hb 6 (.int .i64 x), hg, hC, lay_self (A0 := A0) hb hu (by decide) 6 _, lay_self (A0 := A0) hb hl (by decide) 6 _, lay_self (A0 := A0) hb hy (by decide) 6 _⟩
theorem IsLay.set8 (hI : IsLay w0 W g vf tiles wd h used laid layout steps ended broken) (x : Bool) : IsLay w0 (W.setCell ⟨g, 8, none⟩ (.bool x)) g vf tiles wd h used laid layout steps x broken := by
  obtain ⟨A0, c0, Au, cu, Al, cl, Ay, cy, hb, hg, hC, hu, hl, hy⟩ := hI
  exact ⟨A0, c0, Au, cu, Al, cl, Ay, cy, by simpa using blk_set hb 8 (.bool x), hg, hC, lay_self (A0 := A0) hb hu (by decide) 8 _, lay_self (A0 := A0) hb hl (by decide) 8 _, lay_self (A0 := A0) hb hy (by decide) 8 _⟩
theorem IsLay.set9 (hI : IsLay w0 W g vf tiles wd h used laid layout steps ended broken) (x : Bool) : IsLay w0 (W.setCell ⟨g, 9, none⟩ (.bool x)) g vf tiles wd h used laid layout steps ended x := by
  obtain ⟨A0, c0, Au, cu, Al, cl, Ay, cy, hb, hg, hC, hu, hl, hy⟩ := hI
  exact ⟨A0, c0, Au, cu, Al, cl, Ay, cy, by simpa using blk_set hb 9 (.bool x), hg, hC, lay_self (A0 := A0) hb hu (by decide) 9 _, lay_self (A0 := A0) hb hl (by decide) 9 _, lay_self (A0 := A0) hb hy (by decide) 9 _⟩
end
end Go.Proofs.Ytgcagmmghckbbaa.A
namespace Go.Proofs.Ytgcagmmghckbbaa.A
open Go.RowKit Go.Proofs.YtgcagmmghckbbaaW.PrintWords Go.Proofs.YtgcagmmghckbbaaW.PrintLast Go.Proofs.YtgcagmmghckbbaaW.PrintMore
/-- What lies apart by its type stays under a store. -/
theorem R_apart {α : Type} {d : Kd α} {e base : Nat} {ok : Nat → Prop} {W : World} {v : Value} {xs : List α} {p : Addr} {cs : Array Value} {t : Nat} (hR : d.R e W base ok v xs) (hp : W.heap[p.block]? = some (.cells cs t (0, 0))) (ht : ∀ q, q ∈ e :: d.E → q ≠ t) (u : Value) : d.R e (W.setCell p u) base ok v xs :=
  Kd.R_mono (Kd.R_far (Kd.R_types hR hp ht) (fun _ hk => hk.2) u) (fun _ hk => hk.1)
theorem open_used {W : World} {base : Nat} {A : Option Addr} {c : Nat} {used : List Bool} {x : Int} (h : Kd.R Kd.bool 4 W base (fun _ => True) (.slice A used.length c) used) (h0 : 0 ≤ x) (h1 : x < used.length) : ∃ gu, A = some ⟨gu, 0, none⟩ := by
  obtain ⟨_, _, hC⟩ := Kd.R_reads' h
  obtain ⟨ad, rfl, _⟩ := Kd.at_bool hC x h0 h1
  obtain ⟨gu, rfl⟩ := Kd.R_head h
  exact ⟨gu, rfl⟩
end Go.Proofs.Ytgcagmmghckbbaa.A

/- HAND impl_isRepeated ((*impl.laying).isRepeated): whether a turn of a tile gives what a smaller turn gives. -/
namespace Go.Proofs.Ytgcagmmghckbbaa.A
open Go.RowKit Go.Proofs.YtgcagmmghckbbaaW.PrintWords Go.Proofs.YtgcagmmghckbbaaW.PrintLast Go.Proofs.YtgcagmmghckbbaaW.PrintMore
set_option linter.unusedVariables false
set_option linter.unusedSimpArgs false
attribute [local go_sem high] eqA24
def impl_isRepeated.T4 : Bool × List (List Nat × List Nat) := (true, [([], []), ([0], [0]), ([1], [1]), ([2], [2]), ([], []), ([3, 4], [3, 4]), ([5], [5]), ([], []), ([6, 7], [6, 7]), ([], []), ([9], [9]), ([10], [10]), ([11], [11]), ([], []), ([12, 13], [12, 13]), ([14], [14]), ([], []), ([15, 16, 8], [15, 16]), ([8, 17], [8, 17])])
def impl_isRepeated.B4 : List Nat := [0, 1, 3, 7, 0, 31, 63, 0, 255, 0, 512, 1536, 3584, 0, 15872, 32256, 0, 131071, 262143]
theorem impl_isRepeated.tab4 : rtab .any (opsOf Try.f83 4) = impl_isRepeated.T4 := by kernel_rfl
theorem impl_isRepeated.bits4 : waitsOk impl_isRepeated.T4.2 impl_isRepeated.B4 = true := by kernel_rfl
theorem tup_eq (a b : Tl) : (a.f0 == b.f0 && (a.f1 == b.f1 && (a.f2 == b.f2 && (a.f3 == b.f3)))) = decide (tup a = tup b) := by
 (rcases a with ⟨a0, a1, a2, a3⟩); (rcases b with ⟨b0, b1, b2, b3⟩); (by_cases h0 : a0 = b0 <;> by_cases h1 : a1 = b1 <;> by_cases h2 : a2 = b2 <;> by_cases h3 : a3 = b3 <;> simp [tup, h0, h1, h2, h3])
set_option maxHeartbeats 4000000 in
set_option maxRecDepth 100000 in
theorem impl_isRepeated.calls' {w0 w : World} {g : Nat} {vf : Value} {tiles : List Tl} {wd h : Int} {used : List Bool} {laid : List Tl} {layout : List St} {steps : Int} {ended broken : Bool} (hI : IsLay w0 w g vf tiles wd h used laid layout steps ended broken) (hB0 : Below w0.heap.size w0 w) (x t : Int) (hx0 : 0 ≤ x) (hx1 : x < tiles.length) (ht : 0 ≤ t ∧ t ≤ 3) :
    Calls Try.prog 83 #[.pointer (some ⟨g, 0, none⟩), .int .i64 x, .int .i64 t] w fun e w' => e = .returned (.bool (againV tiles x.toNat t.toNat)) ∧ Below w.heap.size w w' := by
 (have hu24 := Try.underlying24); (have hu92 := Try.underlying92); (have HT := A0_ ht); (have HI := A0_ hI); (have HB0 := A0_ hB0); (have pI : (0 ≤ x) = True := eq_true hx0); (have qI : (x < (tiles.length : Int)) = True := eq_true hx1); (have PI := A0_ hx0); (have QI := A0_ hx1); clear hI hB0 ht hx0 hx1; (go_enter Try.func83, Try.ntmps83); go_wp2
 go_loopg [9] (t.toNat + 1) (fun kq v9 w' => ∃ u : Int, v9 = .int .i64 u ∧ Aside0 (0 ≤ u ∧ u ≤ t ∧ kq + u.toNat = t.toNat + 1 ∧ ((List.range u.toNat).any fun v => decide (tup (turnT (tileAt tiles x.toNat) v) = tup (turnT (tileAt tiles x.toNat) t.toNat))) = false) ∧ Aside0 (Below w.heap.size w w'))
 case atStart => exact ⟨0, rfl, ⟨by omega, HT.out.1, by simp, by simp⟩, ⟨Below.refl _ _⟩⟩
 case round =>
  (obtain ⟨u, rfl, HX, HB⟩ := hrel); (have ex : ((x.toNat : Nat) : Int) = x := Int.toNat_of_nonneg PI.out); (have et : ((t.toNat : Nat) : Int) = t := Int.toNat_of_nonneg HT.out.1); (have eu : ((u.toNat : Nat) : Int) = u := Int.toNat_of_nonneg HX.out.1); (have EX := A0_ ex); (have ET := A0_ et); (have EU := A0_ eu); clear ex et eu; (by_cases c : u < t)
  ·(have c0 : decide (u < t) = true := decide_eq_true c); (obtain ⟨A0, c0_, Au, cu, Al, cl, Ay, cy, hb, _, hC, _, _, _⟩ := (HI.out.below HB.out)); (have hc0_ := (blk_cell hb 0).trans rfl); clear hb; (obtain ⟨ad, e, hx0, hx1, hx2, hx3⟩ := at_T24 hC x PI.out QI.out); (cases e); (replace hx0 := pw_cell_below (below_step HB0.out HB.out) hx0); (replace hx1 := pw_cell_below (below_step HB0.out HB.out) hx1); (replace hx2 := pw_cell_below (below_step HB0.out HB.out) hx2); (replace hx3 := pw_cell_below (below_step HB0.out HB.out) hx3); (change _ = some (Value.int .i64 (tileAt tiles x).f0) at hx0); (change _ = some (Value.int .i64 (tileAt tiles x).f1) at hx1); (change _ = some (Value.int .i64 (tileAt tiles x).f2) at hx2); (change _ = some (Value.int .i64 (tileAt tiles x).f3) at hx3); clear hC; go_wp2; (have HBd := A0_ (below_drew1 HB.out)); clear HB; (have HB := HBd); clear HBd
   refine start_ (n := 19) (S := fun w' => w'.cell? ⟨g, 0, none⟩ = some (.slice (some ad) tiles.length c0_) ∧ w'.cell? (ad.add (x.toNat * 4)) = some (.int .i64 (tileAt tiles x).f0) ∧ w'.cell? ⟨(ad.add (x.toNat * 4)).block, (ad.add (x.toNat * 4)).off + 1, none⟩ = some (.int .i64 (tileAt tiles x).f1) ∧ w'.cell? ⟨(ad.add (x.toNat * 4)).block, (ad.add (x.toNat * 4)).off + 2, none⟩ = some (.int .i64 (tileAt tiles x).f2) ∧ w'.cell? ⟨(ad.add (x.toNat * 4)).block, (ad.add (x.toNat * 4)).off + 3, none⟩ = some (.int .i64 (tileAt tiles x).f3)) (ds := [17]) #[ff,ff,ff,ff,ff,ff,ff,ff,ff,ff,ff,ff,ff,ff,ff,ff,ff,ff,ff] (by kernel_rfl) rfl rfl ⟨hc0_, hx0, hx1, hx2, hx3⟩ (fun hHeld => ?_)
   refine with_tabW impl_isRepeated.tab4 impl_isRepeated.bits4 (fun HT_ HW_ => ?_)
   refine pure_ (i := 0) (N := some 12) (v := ?_) (a' := ?_) #[tt,ff,ff,ff,ff,ff,ff,ff,ff,ff,ff,ff,ff,ff,ff,ff,ff,ff,ff] rfl rfl (any_of HT_.out (by kernel_rfl)) (fun _ _ _ h => h) (Or.inl ⟨by rfl, ?_⟩) ?_ ?_
   rotate_left
   ·intro w'; go_simp; with_reducible rfl
   rotate_left
   ·(simp only [Act.put, sia_, sz_, ss_, i64_w, i32_w]); rfl
   refine pure_ (i := 1) (N := some 13) (v := ?_) (a' := ?_) #[tt,tt,ff,ff,ff,ff,ff,ff,ff,ff,ff,ff,ff,ff,ff,ff,ff,ff,ff] rfl rfl (any_of HT_.out (by kernel_rfl)) (fun _ _ _ h => h) (Or.inl ⟨by rfl, ?_⟩) ?_ ?_
   rotate_left
   ·intro w'; go_simp; with_reducible rfl
   rotate_left
   ·(simp only [Act.put, sia_, sz_, ss_, i64_w, i32_w]); rfl
   refine pure_ (i := 2) (N := some 14) (v := ?_) (a' := ?_) #[tt,tt,tt,ff,ff,ff,ff,ff,ff,ff,ff,ff,ff,ff,ff,ff,ff,ff,ff] rfl rfl (any_of HT_.out (by kernel_rfl)) (fun _ _ _ h => h) (Or.inl ⟨by rfl, ?_⟩) ?_ ?_
   rotate_left
   ·intro w'; go_simp; with_reducible rfl
   rotate_left
   ·(simp only [Act.put, sia_, sz_, ss_, i64_w, i32_w]); rfl
   refine take_ (i := 3) (N := some 15) (v := ?_) (a' := ?_) #[tt,tt,tt,tt,ff,ff,ff,ff,ff,ff,ff,ff,ff,ff,ff,ff,ff,ff,ff] rfl rfl (take_ofW HT_.out HW_.out (by kernel_rfl)) (fun _ _ _ h => h) (Or.inl ⟨by rfl, ?_⟩) hHeld ?_ ?_
   rotate_left
   ·(rintro w' ⟨s0, s1, s2, s3, s4⟩); go_simp; with_reducible rfl
   rotate_left
   ·(simp only [Act.put, sia_, sz_, ss_, i64_w, i32_w]); rfl
   refine pure_ (i := 4) (N := some 16) (v := ?_) (a' := ?_) #[tt,tt,tt,tt,tt,ff,ff,ff,ff,ff,ff,ff,ff,ff,ff,ff,ff,ff,ff] rfl rfl (any_of HT_.out (by kernel_rfl)) (fun _ _ _ h => h) (Or.inl ⟨by rfl, ?_⟩) ?_ ?_
   rotate_left
   ·intro w'; go_simp; with_reducible rfl
   rotate_left
   ·(simp only [Act.put, sia_, sz_, ss_, i64_w, i32_w]); rfl
   refine pure_ (i := 5) (N := some 17) (v := ?_) (a' := ?_) #[tt,tt,tt,tt,tt,tt,ff,ff,ff,ff,ff,ff,ff,ff,ff,ff,ff,ff,ff] rfl rfl (any_of HT_.out (by kernel_rfl)) (fun _ _ _ h => h) (Or.inl ⟨by rfl, ?_⟩) ?_ ?_
   rotate_left
   ·intro w'; go_simp; with_reducible rfl
   rotate_left
   ·(simp only [Act.put, sia_, sz_, ss_, i64_w, i32_w]); rfl
   refine take_ (i := 6) (N := some 18) (v := ?_) (a' := ?_) #[tt,tt,tt,tt,tt,tt,tt,ff,ff,ff,ff,ff,ff,ff,ff,ff,ff,ff,ff] rfl rfl (take_ofW HT_.out HW_.out (by kernel_rfl)) (fun _ _ _ h => h) (Or.inl ⟨by rfl, ?_⟩) hHeld ?_ ?_
   rotate_left
   ·(rintro w' ⟨s0, s1, s2, s3, s4⟩); go_simp; with_reducible rfl
   rotate_left
   ·(simp only [Act.put, sia_, sz_, ss_, i64_w, i32_w]); rfl
   refine pure_ (i := 7) (N := some 19) (v := ?_) (a' := ?_) #[tt,tt,tt,tt,tt,tt,tt,tt,ff,ff,ff,ff,ff,ff,ff,ff,ff,ff,ff] rfl rfl (any_of HT_.out (by kernel_rfl)) (fun _ _ _ h => h) (Or.inl ⟨by rfl, ?_⟩) ?_ ?_
   rotate_left
   ·intro w'; go_simp; with_reducible rfl
   rotate_left
   ·(simp only [Act.put, sia_, sz_, ss_, i64_w, i32_w]); rfl
   refine pure_ (i := 9) (N := some 21) (v := ?_) (a' := ?_) #[tt,tt,tt,tt,tt,tt,tt,tt,ff,tt,ff,ff,ff,ff,ff,ff,ff,ff,ff] rfl rfl (any_of HT_.out (by kernel_rfl)) (fun _ _ _ h => h) (Or.inl ⟨by rfl, ?_⟩) ?_ ?_
   rotate_left
   ·intro w'; go_simp; with_reducible rfl
   rotate_left
   ·(simp only [Act.put, sia_, sz_, ss_, i64_w, i32_w]); rfl
   refine pure_ (i := 10) (N := some 22) (v := ?_) (a' := ?_) #[tt,tt,tt,tt,tt,tt,tt,tt,ff,tt,tt,ff,ff,ff,ff,ff,ff,ff,ff] rfl rfl (any_of HT_.out (by kernel_rfl)) (fun _ _ _ h => h) (Or.inl ⟨by rfl, ?_⟩) ?_ ?_
   rotate_left
   ·intro w'; go_simp; with_reducible rfl
   rotate_left
   ·(simp only [Act.put, sia_, sz_, ss_, i64_w, i32_w]); rfl
   refine pure_ (i := 11) (N := some 23) (v := ?_) (a' := ?_) #[tt,tt,tt,tt,tt,tt,tt,tt,ff,tt,tt,tt,ff,ff,ff,ff,ff,ff,ff] rfl rfl (any_of HT_.out (by kernel_rfl)) (fun _ _ _ h => h) (Or.inl ⟨by rfl, ?_⟩) ?_ ?_
   rotate_left
   ·intro w'; go_simp; with_reducible rfl
   rotate_left
   ·(simp only [Act.put, sia_, sz_, ss_, i64_w, i32_w]); rfl
   refine take_ (i := 12) (N := some 24) (v := ?_) (a' := ?_) #[tt,tt,tt,tt,tt,tt,tt,tt,ff,tt,tt,tt,tt,ff,ff,ff,ff,ff,ff] rfl rfl (take_ofW HT_.out HW_.out (by kernel_rfl)) (fun _ _ _ h => h) (Or.inl ⟨by rfl, ?_⟩) hHeld ?_ ?_
   rotate_left
   ·(rintro w' ⟨s0, s1, s2, s3, s4⟩); go_simp; with_reducible rfl
   rotate_left
   ·(simp only [Act.put, sia_, sz_, ss_, i64_w, i32_w]); rfl
   refine pure_ (i := 13) (N := some 25) (v := ?_) (a' := ?_) #[tt,tt,tt,tt,tt,tt,tt,tt,ff,tt,tt,tt,tt,tt,ff,ff,ff,ff,ff] rfl rfl (any_of HT_.out (by kernel_rfl)) (fun _ _ _ h => h) (Or.inl ⟨by rfl, ?_⟩) ?_ ?_
   rotate_left
   ·intro w'; go_simp; with_reducible rfl
   rotate_left
   ·(simp only [Act.put, sia_, sz_, ss_, i64_w, i32_w]); rfl
   refine pure_ (i := 14) (N := some 26) (v := ?_) (a' := ?_) #[tt,tt,tt,tt,tt,tt,tt,tt,ff,tt,tt,tt,tt,tt,tt,ff,ff,ff,ff] rfl rfl (any_of HT_.out (by kernel_rfl)) (fun _ _ _ h => h) (Or.inl ⟨by rfl, ?_⟩) ?_ ?_
   rotate_left
   ·intro w'; go_simp; with_reducible rfl
   rotate_left
   ·(simp only [Act.put, sia_, sz_, ss_, i64_w, i32_w]); rfl
   refine take_ (i := 15) (N := some 27) (v := ?_) (a' := ?_) #[tt,tt,tt,tt,tt,tt,tt,tt,ff,tt,tt,tt,tt,tt,tt,tt,ff,ff,ff] rfl rfl (take_ofW HT_.out HW_.out (by kernel_rfl)) (fun _ _ _ h => h) (Or.inl ⟨by rfl, ?_⟩) hHeld ?_ ?_
   rotate_left
   ·(rintro w' ⟨s0, s1, s2, s3, s4⟩); go_simp; with_reducible rfl
   rotate_left
   ·(simp only [Act.put, sia_, sz_, ss_, i64_w, i32_w]); rfl
   refine pure_ (i := 16) (N := some 28) (v := ?_) (a' := ?_) #[tt,tt,tt,tt,tt,tt,tt,tt,ff,tt,tt,tt,tt,tt,tt,tt,tt,ff,ff] rfl rfl (any_of HT_.out (by kernel_rfl)) (fun _ _ _ h => h) (Or.inl ⟨by rfl, ?_⟩) ?_ ?_
   rotate_left
   ·intro w'; go_simp; with_reducible rfl
   rotate_left
   ·(simp only [Act.put, sia_, sz_, ss_, i64_w, i32_w]); rfl
   refine one_ (i := 8) (N := some 20) #[tt,tt,tt,tt,tt,tt,tt,tt,tt,tt,tt,tt,tt,tt,tt,tt,tt,ff,ff] rfl rfl (one_of HT_.out (by kernel_rfl)) (by decide) (fun K hK => ?_)
   (refine goes_ Try.func54 (by kernel_rfl) rfl #[.agg #[.int .i64 (tileAt tiles x).f0, .int .i64 (tileAt tiles x).f1, .int .i64 (tileAt tiles x).f2, .int .i64 (tileAt tiles x).f3], .int .i64 u] (by rfl) rfl rfl (by (try simp only [List.map_toArray, List.map_cons, List.map_nil]); first | done | rfl | (simp only [List.length_drop, List.length_take]; rfl)) ?_); (refine (impl_turnTile.calls 4 (tileAt tiles x).f0 (tileAt tiles x).f1 (tileAt tiles x).f2 (tileAt tiles x).f3 u (turnT (tileAt tiles x) u).f0 (turnT (tileAt tiles x) u).f1 (turnT (tileAt tiles x) u).f2 (turnT (tileAt tiles x) u).f3 _ (turnTile_at (tileAt tiles x) u HX.out.1 (Int.le_of_lt (Int.lt_of_lt_of_le c HT.out.2)) 0)).mono ?_); (rintro e w1 ⟨rfl, hb⟩); (refine ⟨_, rfl, ?_⟩); (have HBw1 := A0_ (below_step HB.out hb))
   refine hK.out _ _ ⟨pw_cell_below hb hHeld.1, pw_cell_below hb hHeld.2.1, pw_cell_below hb hHeld.2.2.1, pw_cell_below hb hHeld.2.2.2.1, pw_cell_below hb hHeld.2.2.2.2⟩ (fun hHeld => ?_)
   clear hb HB; (have HB := HBw1); clear HBw1; clear hK K; (refine norm_ (a' := ?_) ?_ ?_); rotate_left
   ·(show Act.put _ (some 20) _ = _); (simp only [Act.put, sia_, sz_, ss_, i64_w, i32_w]); rfl
   refine last_ (i := 17) (N := some 29) #[tt,tt,tt,tt,tt,tt,tt,tt,tt,tt,tt,tt,tt,tt,tt,tt,tt,tt,ff] rfl rfl (one_of HT_.out (by kernel_rfl)) (by decide) (fun K hK => ?_)
   (refine goes_ Try.func54 (by kernel_rfl) rfl #[.agg #[.int .i64 (tileAt tiles x).f0, .int .i64 (tileAt tiles x).f1, .int .i64 (tileAt tiles x).f2, .int .i64 (tileAt tiles x).f3], .int .i64 t] (by rfl) rfl rfl (by (try simp only [List.map_toArray, List.map_cons, List.map_nil]); first | done | rfl | (simp only [List.length_drop, List.length_take]; rfl)) ?_); (refine (impl_turnTile.calls 4 (tileAt tiles x).f0 (tileAt tiles x).f1 (tileAt tiles x).f2 (tileAt tiles x).f3 t (turnT (tileAt tiles x) t).f0 (turnT (tileAt tiles x) t).f1 (turnT (tileAt tiles x) t).f2 (turnT (tileAt tiles x) t).f3 _ (turnTile_at (tileAt tiles x) t HT.out.1 HT.out.2 0)).mono ?_); (rintro e w2 ⟨rfl, hb⟩); (refine ⟨_, rfl, ?_⟩); (have HBw2 := A0_ (below_step HB.out hb)); (refine hK.out _ _ ?_); clear hb HB; (have HB := HBw2); clear HBw2; clear hK K; (refine norm_ (a' := ?_) ?_ ?_); rotate_left
   ·(show Act.put _ (some 29) _ = _); (simp only [Act.put, sia_, sz_, ss_, i64_w, i32_w]); rfl
   refine pure_ (i := 18) (N := some 30) (v := ?_) (a' := ?_) #[tt,tt,tt,tt,tt,tt,tt,tt,tt,tt,tt,tt,tt,tt,tt,tt,tt,tt,tt] rfl rfl (any_of HT_.out (by kernel_rfl)) (fun _ _ _ h => h) (Or.inl ⟨by rfl, ?_⟩) ?_ ?_
   rotate_left
   ·intro w'; go_simp; with_reducible rfl
   rotate_left
   ·(simp only [Act.put, sia_, sz_, ss_, i64_w, i32_w]); rfl
   (refine done_ (done_of HT_.out (by kernel_rfl)) ?_); (have eqq : (((turnT (tileAt tiles x) u).f0 == (turnT (tileAt tiles x) t).f0 && ((turnT (tileAt tiles x) u).f1 == (turnT (tileAt tiles x) t).f1 && ((turnT (tileAt tiles x) u).f2 == (turnT (tileAt tiles x) t).f2 && ((turnT (tileAt tiles x) u).f3 == (turnT (tileAt tiles x) t).f3))))) = decide (tup (turnT (tileAt tiles x) u) = tup (turnT (tileAt tiles x) t)) := tup_eq _ _); (by_cases d : tup (turnT (tileAt tiles x) u) = tup (turnT (tileAt tiles x) t))
   ·(rw [decide_eq_true d] at eqq); (have D := A0_ d); clear d; (simp only [eqq]); go_wp2; go_ret; (refine ⟨?_, HB.out⟩)
    have : againV tiles x.toNat t.toNat = true := by
     (unfold againV); (rw [List.any_eq_true]); (exact ⟨u.toNat, List.mem_range.2 (by have := EU.out; have := ET.out; omega), decide_eq_true (by rw [EX.out, EU.out, ET.out]; exact D.out)⟩)
    (rw [this]; rfl)
   ·(rw [decide_eq_false d] at eqq); (have D := A0_ d); clear d; (simp only [eqq]); go_wp2; (have hw : wrap64 (u + 1) = u + 1 := by have := HT.out.2; have := HX.out.1; unfold wrap64; omega); (obtain ⟨k1, hk1⟩ : ∃ k1, gk = k1 + 1 := ⟨gk - 1, by have := HX.out.2.2.1; have := EU.out; have := ET.out; omega⟩); subst hk1; (go_roundg k1)
    case measure => omega
    case rel =>
     (refine ⟨u + 1, by first | rfl | rw [hw], ⟨by have := HX.out.1; omega, by omega, by have := HX.out.2.2.1; have := EU.out; have := ET.out; omega, ?_⟩, HB⟩); (have e1 : (u + 1).toNat = u.toNat + 1 := by have := HX.out.1; omega); (rw [e1, List.range_succ, List.any_append, HX.out.2.2.2]); (simp only [List.any_cons, List.any_nil, Bool.or_false, Bool.false_or]); (exact decide_eq_false (by rw [EX.out, EU.out, ET.out]; exact D.out))
  ·(have c0 : decide (u < t) = false := decide_eq_false c); go_wp2; go_ret
   have : againV tiles x.toNat t.toNat = false := by
    (have e1 : u = t := by have := HX.out.2.1; omega); subst e1; (exact HX.out.2.2.2)
   (exact ⟨by rw [this]; rfl, HB.out⟩)
end Go.Proofs.Ytgcagmmghckbbaa.A

