/- What the row of the law FnExactStatesOf stands on, part 4. -/
import Derived.Test.YtlbckkagjekhnaaMFnExactStatesOf3
namespace Go.Proofs.Ytlbckkagjekhnaa.A
open Go.RowKit Go.Proofs.YtlbckkagjekhnaaW.PrintWords Go.Proofs.YtlbckkagjekhnaaW.PrintLast Go.Proofs.YtlbckkagjekhnaaW.PrintMore
attribute [local go_sem] max2_int min2_int max_two min_two max_three min_three max_four min_four   -- for this text's walks alone
set_option linter.unusedVariables false
set_option linter.unusedSimpArgs false
mutual
def spec_l27Leaves.l0 : Nat → List (S69) → Int → Int → List (S69) → Int → List (List (S69)) → Option (Bool)
  | 0, _, _, _, _, _, _ => none
  | k + 1, x1, x2, x3, x9, x10, x368000 => if x10 < 40 then ((spec_l27Vector.f x3).bind fun bt373 => ((spec_l09Move.f k x9 bt373.1 bt373.2.1 bt373.2.2).bind fun t376 => (spec_l27Leaves.l1 k x1 x2 x3 t376 x10 0 x368000))) else (some true)
def spec_l27Leaves.l1 : Nat → List (S69) → Int → Int → List (S69) → Int → Int → List (List (S69)) → Option (Bool)
  | 0, _, _, _, _, _, _, _ => none
  | k + 1, x1, x2, x3, x9, x10, x11, x368000 => if x11 < (x1.length : Int) then (if x11 = x2 then (spec_l27Leaves.l1 k x1 x2 x3 x9 x10 (wrap64 (x11 + 1)) x368000) else (if 0 ≤ x11 then (if x11 < (x368000.length : Int) then ((spec_l09Move.f k (rd_L4 x368000 x11) ((rd_T69 x1 x11).f0) ((rd_T69 x1 x11).f1) ((rd_T69 x1 x11).f2)).bind fun t381 => ((spec_l27Meet.f k x9 t381).bind fun t384 => (if t384 = true then (some false) else (spec_l27Leaves.l1 k x1 x2 x3 x9 x10 (wrap64 (x11 + 1)) x368000)))) else (none)) else (none))) else (spec_l27Leaves.l0 k x1 x2 x3 x9 (wrap64 (x10 + 1)) x368000)
end
def spec_l27Leaves.f (k : Nat) (l0_0 : List (List (S69))) (l1 : List (S69)) (a2 : Int) (a3 : Int) : Option (Bool) := if 0 ≤ a2 then (if a2 < (l0_0.length : Int) then (if a2 < (l1.length : Int) then ((spec_l09Move.f k (rd_L4 l0_0 a2) ((rd_T69 l1 a2).f0) ((rd_T69 l1 a2).f1) ((rd_T69 l1 a2).f2)).bind fun t370 => (spec_l27Leaves.l0 k l1 a2 a3 t370 0 l0_0)) else (none)) else (none)) else (none)
def spec_l27Leaves.T1 : Bool × List (List Nat × List Nat) := (true, [([], []), ([0], [0]), ([], []), ([1, 2], [1, 2]), ([3], [3]), ([], []), ([], []), ([5, 6], [5, 6]), ([7], [7]), ([4, 8], [4, 8]), ([9, 9, 0, 1, 2, 3, 4, 5, 6, 7, 8, 9], [9])])
def spec_l27Leaves.B1 : List Nat := [0, 1, 0, 7, 15, 0, 0, 96, 224, 511, 1023]
theorem spec_l27Leaves.tab1 : rtab .any (opsOf Try.f91 1) = spec_l27Leaves.T1 := by kernel_rfl
theorem spec_l27Leaves.bits1 : waitsOk spec_l27Leaves.T1.2 spec_l27Leaves.B1 = true := by kernel_rfl
def spec_l27Leaves.T9 : Bool × List (List Nat × List Nat) := (true, [([], []), ([], []), ([0, 1], [0, 1]), ([2], [2]), ([3], [3]), ([3], [3]), ([5, 3], [3, 5]), ([3], [3]), ([6, 7, 3], [3, 6, 7]), ([8, 3], [3, 8]), ([3], [3]), ([3], [3]), ([10, 11, 3], [3, 10, 11]), ([12, 3], [3, 12]), ([9, 13, 3, 3], [3, 9, 13]), ([4, 14, 14, 3], [3, 4, 14]), ([3, 15], [3, 15])])
def spec_l27Leaves.B9 : List Nat := [0, 0, 3, 7, 15, 15, 47, 15, 239, 495, 15, 15, 3087, 7183, 16367, 32767, 65535]
theorem spec_l27Leaves.tab9 : rtab .any (opsOf Try.f91 9) = spec_l27Leaves.T9 := by kernel_rfl
theorem spec_l27Leaves.bits9 : waitsOk spec_l27Leaves.T9.2 spec_l27Leaves.B9 = true := by kernel_rfl
set_option maxHeartbeats 8000000 in
set_option maxRecDepth 100000 in
theorem spec_l27Leaves.calls (k : Nat) (A0_0 : Option Addr) (c0_0 : Nat) (l0_0 : List (List (S69))) (A1 : Option Addr) (c1 : Nat) (l1 : List (S69)) (a2 : Int) (a3 : Int) (r : Bool) (w : World) (hr0_0 : Kd.C (Kd.slice 69 k69) w A0_0 l0_0.length l0_0) (hc0_0 : l0_0.length ≤ c0_0) (hr1 : Kd.C k69 w A1 l1.length l1) (hc1 : l1.length ≤ c1) (h : spec_l27Leaves.f k l0_0 l1 a2 a3 = some r) :
    Calls Try.prog 91 #[.agg #[.slice A0_0 l0_0.length c0_0], .slice A1 l1.length c1, .int .i64 a2, .int .i64 a3] w fun e w' => e = .returned (.bool r) ∧ Below w.heap.size w w' := by
 (have hu32 := Try.underlying32); (have hu69 := Try.underlying69); (have HR0_0 := A0_ hr0_0); (have HC0_0 := A0_ hc0_0); clear hr0_0 hc0_0; (have HR1 := A0_ hr1); (have HC1 := A0_ hc1); clear hr1 hc1; (have HB := A0_ (Below.refl w.heap.size w))
 have H : (if 0 ≤ a2 then (if a2 < (l0_0.length : Int) then (if a2 < (l1.length : Int) then ((spec_l09Move.f k (rd_L4 l0_0 a2) ((rd_T69 l1 a2).f0) ((rd_T69 l1 a2).f1) ((rd_T69 l1 a2).f2)).bind fun t370 => (spec_l27Leaves.l0 k l1 a2 a3 t370 0 l0_0)) else (none)) else (none)) else (none)) = some r := h
 clear h; (by_cases c5 : 0 ≤ a2)
 ·(rw [if_pos c5] at H); (have c5b0 : decide (0 ≤ a2) = true := decide_eq_true c5); clear c5; (by_cases c6 : a2 < (l0_0.length : Int))
  ·(rw [if_pos c6] at H); (have c6b0 : decide (a2 < (l0_0.length : Int)) = true := decide_eq_true c6); clear c6; (by_cases c7 : a2 < (l1.length : Int))
   ·(rw [if_pos c7] at H); (have c7b0 : decide (a2 < (l1.length : Int)) = true := decide_eq_true c7); clear c7; (replace H := Option.bind_eq_some_iff.mp H); (obtain ⟨t370, A80, H⟩ := H); (try dsimp only at H); (have A8 := A0_ A80); clear A80; (have H' := A0_ H); clear H; (go_enter Try.func91, Try.ntmps91); (try go_wp2_with (first | ((with_reducible refine gate_dst (N := 4) rfl ?_); refine box_event ?hg (N := 4) ?hd (cs := #[.slice A0_0 l0_0.length c0_0]) (t := 32) ?hr ?_; (case hd => rfl); (case hg => rfl); (case hr => first | (go_simp; done) | (go_simp; rfl)); intro gb367 hg w9 hbox hb; have n0_ := A0_ (below_step (by repeat (first | (with_reducible first | exact HB.out | apply ba_ | apply bn_ | apply bd_) | exact HB.out)) hb); have n1_ := A0_ (hbox); have n2_ := A0_ ((by rw [hg]; exact (below_size (by repeat (first | (with_reducible first | exact HB.out | apply ba_ | apply bn_ | apply bd_) | exact HB.out))) : w.heap.size ≤ gb367)); have n3_ := A0_ ((by rw [hg]; exact (below_size (by repeat (first | (with_reducible first | exact HB.out | apply ba_ | apply bn_ | apply bd_) | exact HB.out))) : w.heap.size ≤ gb367)); clear HB; have HB := n0_; have BK367 := n1_; have GW367 := n2_; have GE367 := n3_; clear n0_ n1_ n2_ n3_; clear hb hbox hg))); (have n0_ := A0_ (blk_drew BK367.out)); (have n1_ := A0_ (below_drew1 HB.out)); clear BK367; clear HB; (have BK367 := n0_); (have HB := n1_); clear n0_ n1_; (have p368 : 0 ≤ (a2 : Int) := of_decide_eq_true (by first | (with_reducible assumption) | assumption)); (have q368 : a2 < (l0_0.length : Int) := of_decide_eq_true (by first | (with_reducible assumption) | assumption)); (obtain ⟨ad368, A368_0, c368_0, e368, hx368_0, hl368_0, hi368_0⟩ := at_L4 HR0_0.out a2 p368 q368); (have hw368_0 := hx368_0); (cases e368); (replace hx368_0 := (HB.out.cell (World.block_lt_of_cell? w _ hx368_0)).trans hx368_0); (have HR368_0 := A0_ hi368_0); (have HC368_0 := A0_ hl368_0); clear hi368_0 hl368_0; (replace p368 := eq_true p368); (replace q368 := eq_true q368); (have p369 : 0 ≤ (a2 : Int) := of_decide_eq_true (by first | (with_reducible assumption) | assumption)); (have q369 : a2 < (l1.length : Int) := of_decide_eq_true (by first | (with_reducible assumption) | assumption)); (obtain ⟨ad369, e369, hx369_0, hx369_1, hx369_2⟩ := at_T69 HR1.out a2 p369 q369); (have hw369_2 := hx369_2); (have hw369_1 := hx369_1); (have hw369_0 := hx369_0); (cases e369); (replace hx369_0 := (HB.out.cell (World.block_lt_of_cell? w _ hx369_0)).trans hx369_0); (replace hx369_1 := (HB.out.cell (World.block_lt_of_cell? w _ hx369_1)).trans hx369_1); (replace hx369_2 := (HB.out.cell (World.block_lt_of_cell? w _ hx369_2)).trans hx369_2); (replace p369 := eq_true p369); (replace q369 := eq_true q369)
    refine start_ (n := 11) (S := fun w' => w'.cell? ⟨gb367, 0, none⟩ = some (.slice (some ad368) l0_0.length c0_0) ∧ w'.cell? (ad368.add (a2).toNat) = some (.slice A368_0 (rd_L4 l0_0 a2).length c368_0) ∧ w'.cell? (ad369.add ((a2).toNat * 3)) = some (.int .i64 ((rd_T69 l1 a2).f0)) ∧ w'.cell? ⟨(ad369.add ((a2).toNat * 3)).block, (ad369.add ((a2).toNat * 3)).off + 1, none⟩ = some (.int .i64 ((rd_T69 l1 a2).f1)) ∧ w'.cell? ⟨(ad369.add ((a2).toNat * 3)).block, (ad369.add ((a2).toNat * 3)).off + 2, none⟩ = some (.int .i64 ((rd_T69 l1 a2).f2))) (ds := []) #[ff,ff,ff,ff,ff,ff,ff,ff,ff,ff,ff] (by kernel_rfl) rfl rfl ⟨(blk_cell BK367.out 0).trans rfl, ((HB.out.cell (World.block_lt_of_cell? w _ hw368_0)).trans hw368_0), ((HB.out.cell (World.block_lt_of_cell? w _ hw369_0)).trans hw369_0), ((HB.out.cell (World.block_lt_of_cell? w _ hw369_1)).trans hw369_1), ((HB.out.cell (World.block_lt_of_cell? w _ hw369_2)).trans hw369_2)⟩ (fun hHeld => ?_); refine with_tabW spec_l27Leaves.tab1 spec_l27Leaves.bits1 (fun HT_ HW_ => ?_)
    (generalize w9.drew = w10 at BK367 HB HR368_0 hx368_0 hx369_0 hx369_1 hx369_2 hHeld ⊢)
    refine pure_ (i := 0) (N := some 12) (v := ?_) (a' := ?_) #[tt,ff,ff,ff,ff,ff,ff,ff,ff,ff,ff] rfl rfl (any_of HT_.out (by kernel_rfl)) (fun _ _ _ h => h) (Or.inl ⟨by rfl, ?_⟩) ?_ ?_
    rotate_left
    ·intro w'; go_simp; with_reducible rfl
    rotate_left
    ·(simp only [Act.put, sia_, sz_, ss_, i64_w, i32_w]); rfl
    refine pure_ (i := 2) (N := some 14) (v := ?_) (a' := ?_) #[tt,ff,tt,ff,ff,ff,ff,ff,ff,ff,ff] rfl rfl (any_of HT_.out (by kernel_rfl)) (fun _ _ _ h => h) (Or.inl ⟨by rfl, ?_⟩) ?_ ?_
    rotate_left
    ·intro w'; go_simp; with_reducible rfl
    rotate_left
    ·(simp only [Act.put, sia_, sz_, ss_, i64_w, i32_w]); rfl
    refine pure_ (i := 5) (N := some 17) (v := ?_) (a' := ?_) #[tt,ff,tt,ff,ff,tt,ff,ff,ff,ff,ff] rfl rfl (any_of HT_.out (by kernel_rfl)) (fun _ _ _ h => h) (Or.inl ⟨by rfl, ?_⟩) ?_ ?_
    rotate_left
    ·intro w'; go_simp; with_reducible rfl
    rotate_left
    ·(simp only [Act.put, sia_, sz_, ss_, i64_w, i32_w]); rfl
    refine pure_ (i := 6) (N := some 18) (v := ?_) (a' := ?_) #[tt,ff,tt,ff,ff,tt,tt,ff,ff,ff,ff] rfl rfl (any_of HT_.out (by kernel_rfl)) (fun _ _ _ h => h) (Or.inl ⟨by rfl, ?_⟩) ?_ ?_
    rotate_left
    ·intro w'; go_simp; with_reducible rfl
    rotate_left
    ·(simp only [Act.put, sia_, sz_, ss_, i64_w, i32_w]); rfl
    refine pure_ (i := 7) (N := some 19) (v := ?_) (a' := ?_) #[tt,ff,tt,ff,ff,tt,tt,tt,ff,ff,ff] rfl rfl (any_of HT_.out (by kernel_rfl)) (fun _ _ _ h => h) (Or.inl ⟨by rfl, ?_⟩) ?_ ?_
    rotate_left
    ·intro w'; go_simp; with_reducible rfl
    rotate_left
    ·(simp only [Act.put, sia_, sz_, ss_, i64_w, i32_w]); rfl
    refine take_ (i := 1) (N := some 13) (v := ?_) (a' := ?_) #[tt,tt,tt,ff,ff,tt,tt,tt,ff,ff,ff] rfl rfl (take_ofW HT_.out HW_.out (by kernel_rfl)) (fun _ _ _ h => h) (Or.inl ⟨by rfl, ?_⟩) hHeld ?_ ?_
    rotate_left
    ·(rintro w' ⟨s0, s1, s2, s3, s4⟩); go_simp; with_reducible rfl
    rotate_left
    ·(simp only [Act.put, sia_, sz_, ss_, i64_w, i32_w]); rfl
    refine pure_ (i := 3) (N := some 15) (v := ?_) (a' := ?_) #[tt,tt,tt,tt,ff,tt,tt,tt,ff,ff,ff] rfl rfl (any_of HT_.out (by kernel_rfl)) (fun _ _ _ h => h) (Or.inl ⟨by rfl, ?_⟩) ?_ ?_
    rotate_left
    ·intro w'; go_simp; with_reducible rfl
    rotate_left
    ·(simp only [Act.put, sia_, sz_, ss_, i64_w, i32_w]); rfl
    refine take_ (i := 4) (N := some 16) (v := ?_) (a' := ?_) #[tt,tt,tt,tt,tt,tt,tt,tt,ff,ff,ff] rfl rfl (take_ofW HT_.out HW_.out (by kernel_rfl)) (fun _ _ _ h => h) (Or.inl ⟨by rfl, ?_⟩) hHeld ?_ ?_
    rotate_left
    ·(rintro w' ⟨s0, s1, s2, s3, s4⟩); go_simp; with_reducible rfl
    rotate_left
    ·(simp only [Act.put, sia_, sz_, ss_, i64_w, i32_w]); rfl
    refine take_ (i := 8) (N := some 20) (v := ?_) (a' := ?_) #[tt,tt,tt,tt,tt,tt,tt,tt,tt,ff,ff] rfl rfl (take_ofW HT_.out HW_.out (by kernel_rfl)) (fun _ _ _ h => h) (Or.inl ⟨by rfl, ?_⟩) hHeld ?_ ?_
    rotate_left
    ·(rintro w' ⟨s0, s1, s2, s3, s4⟩); go_simp; with_reducible rfl
    rotate_left
    ·(simp only [Act.put, sia_, sz_, ss_, i64_w, i32_w]); rfl
    refine one_ (i := 9) (N := some 21) #[tt,tt,tt,tt,tt,tt,tt,tt,tt,tt,ff] rfl rfl (one_of HT_.out (by kernel_rfl)) (by decide) (fun K hK => ?_)
    (refine goes_ Try.func71 (by kernel_rfl) rfl #[.slice A368_0 (rd_L4 l0_0 a2).length c368_0, .agg #[.int .i64 ((rd_T69 l1 a2).f0), .int .i64 ((rd_T69 l1 a2).f1), .int .i64 ((rd_T69 l1 a2).f2)]] (by rfl) rfl rfl (by (try simp only [List.map_toArray, List.map_cons, List.map_nil]); first | done | rfl | (simp only [List.length_drop, List.length_take]; rfl)) ?_); (with_reducible refine (spec_l09Move.calls k _ _ (rd_L4 l0_0 a2) ((rd_T69 l1 a2).f0) ((rd_T69 l1 a2).f1) ((rd_T69 l1 a2).f2) t370 _ ?side1 ?side2 A8.out).mono ?_); ((case side1 => repeat (first | exact (Kd.C_below HR368_0.out HB.out) | (with_reducible refine Kd.C_alloc ?_ _) | (with_reducible refine Kd.C_drewN ?_ _) | (with_reducible refine Kd.C_drew ?_)))); ((case side2 => exact HC368_0.out)); (rintro e w11 ⟨v371, rfl, ho0, hb⟩); (refine ⟨_, rfl, ?_⟩); (have n0_ := A0_ (Kd.R_lower ho0 (below_size (by repeat (first | (with_reducible first | exact HB.out | apply ba_ | apply bn_ | apply bd_ | refine below_set ?_ GE367.out) | exact HB.out))))); (have n1_ := A0_ (blk_below (g := gb367) (o := .cells #[.slice (some ad368) l0_0.length c0_0] 32 (0, 0)) (by (with_reducible repeat (first | apply gn_ | apply gd_ | apply ga_)); exact BK367.out) hb)); (have n2_ := A0_ (below_step (by repeat (first | (with_reducible first | exact HB.out | apply ba_ | apply bn_ | apply bd_ | refine below_set ?_ GE367.out) | exact HB.out)) hb)); clear BK367; clear HB; (have HO372 := n0_); (have BK367 := n1_); (have HB := n2_); clear n0_ n1_ n2_; ((try clear hb)); ((try clear hb2)); ((try clear hk)); ((try clear hi)); ((try clear ho0))
    refine hK.out _ _ ⟨(blk_cell BK367.out 0).trans rfl, ((HB.out.cell (World.block_lt_of_cell? w _ hw368_0)).trans hw368_0), ((HB.out.cell (World.block_lt_of_cell? w _ hw369_0)).trans hw369_0), ((HB.out.cell (World.block_lt_of_cell? w _ hw369_1)).trans hw369_1), ((HB.out.cell (World.block_lt_of_cell? w _ hw369_2)).trans hw369_2)⟩ (fun hHeld => ?_)
    clear hK K; (refine norm_ (a' := ?_) ?_ ?_); rotate_left
    ·(show Act.put _ (some 21) _ = _); (simp only [Act.put, sia_, sz_, ss_, i64_w, i32_w]); rfl
    refine pure_ (i := 10) (N := some 9) (v := ?_) (a' := ?_) #[tt,tt,tt,tt,tt,tt,tt,tt,tt,tt,tt] rfl rfl (any_of HT_.out (by kernel_rfl)) (fun _ _ _ h => h) (Or.inl ⟨by rfl, ?_⟩) ?_ ?_
    rotate_left
    ·intro w'; go_simp; with_reducible rfl
    rotate_left
    ·(simp only [Act.put, sia_, sz_, ss_, i64_w, i32_w]); rfl
    (refine done_ (done_of HT_.out (by kernel_rfl)) ?_); (try go_wp2)
    go_loopg [9, 10] k (fun kq v9 v10 w' => ∃ (x9_1 : List (S69)) (x10_1 : Int), v10 = .int .i64 x10_1 ∧ Aside0 (spec_l27Leaves.l0 kq l1 a2 a3 x9_1 x10_1 l0_0 = some r) ∧ Aside0 (kq ≤ k) ∧ Aside0 (Kd.R k69 69 w' w.heap.size (fun _ => True) v9 x9_1) ∧ Aside0 (w'.heap[gb367]? = some (.cells #[(.slice (some ad368) l0_0.length c0_0)] 32 (0, 0))) ∧ Aside0 (Below w.heap.size w w'))
    case atStart => exact ⟨(t370), (0), (by first | rfl | (simp; done) | (simp [*]; done)), H', ⟨Nat.le_refl _⟩, ⟨by (with_reducible repeat (first | apply Ra_ | apply Rn_ | apply Rd_)); exact HO372.out⟩, ⟨by (with_reducible repeat (first | apply gn_ | apply gd_ | apply ga_)); exact BK367.out⟩, ⟨by repeat (first | (with_reducible first | exact HB.out | apply ba_ | apply bn_ | apply bd_ | refine below_set ?_ GE367.out) | exact HB.out)⟩⟩
    case round =>
     clear H'; (try clear c1); (try clear p2); (try clear c3); (try clear p3); (try clear q3); (try clear hx3); (try clear c5); (try clear c5b0); (try clear c6); (try clear c6b0); (try clear c7); (try clear c7b0); (try clear c9); (try clear hx368_0); (try clear hx369_0); (try clear hx369_1); (try clear hx369_2); (try clear p368); (try clear p369); (try clear q368); (try clear q369); (obtain ⟨x9_1, x10_1, rfl, HA, HK1, HO_9, BK367, HB⟩ := hrel)
     cases gk with
     | zero => exact absurd HA.out (by simp [spec_l27Leaves.l0])
     | succ k1 =>
      (have H := HA.out); clear HA; (simp only [spec_l27Leaves.l0] at H); (by_cases c12 : x10_1 < 40)
      ·(rw [if_pos c12] at H); (have c12b0 : decide (x10_1 < 40) = true := decide_eq_true c12); clear c12; (replace H := Option.bind_eq_some_iff.mp H); (obtain ⟨⟨t373, t374, t375⟩, A130, H⟩ := H); (try dsimp only at H); (have A13 := A0_ A130); clear A130; (replace H := Option.bind_eq_some_iff.mp H); (obtain ⟨t376, A140, H⟩ := H); (try dsimp only at H); (have A14 := A0_ A140); clear A140; (have H' := A0_ H); clear H; (go_wp2_with (first | ((with_reducible refine gate_callee (f := 117) rfl ?_); refine goesL_ (some 28) rfl rfl Try.func117 (by kernel_rfl) rfl #[.int .i64 a3] rfl (by (try simp only [List.map_toArray, List.map_cons, List.map_nil]); first | done | rfl | (simp only [List.length_drop, List.length_take]; rfl)) ?_; (with_reducible refine (spec_l27Vector.calls a3 t373 t374 t375 _ A13.out).mono ?_); rintro e w15 ⟨rfl, hb⟩; refine ⟨_, rfl, ?_⟩; have n0_ := A0_ (Kd.R_below (by (with_reducible repeat (first | apply Ra_ | apply Rn_ | apply Rd_)); exact HO_9.out) hb); have n1_ := A0_ (blk_below (g := gb367) (o := .cells #[.slice (some ad368) l0_0.length c0_0] 32 (0, 0)) (by (with_reducible repeat (first | apply gn_ | apply gd_ | apply ga_)); exact BK367.out) hb); have n2_ := A0_ (below_step (by repeat (first | (with_reducible first | exact HB.out | apply ba_ | apply bn_ | apply bd_ | refine below_set ?_ GE367.out) | exact HB.out)) hb); clear HO_9; clear BK367; clear HB; have HO_9 := n0_; have BK367 := n1_; have HB := n2_; clear n0_ n1_ n2_; (try clear hb); (try clear hb2); (try clear hk); (try clear hi); obtain ⟨Ao16, co16, eo16⟩ := Kd.R_slice HO_9.out; subst eo16) | ((with_reducible refine gate_callee (f := 71) rfl ?_); refine goesL_ (some 29) rfl rfl Try.func71 (by kernel_rfl) rfl #[.slice Ao16 x9_1.length co16, .agg #[.int .i64 t373, .int .i64 t374, .int .i64 t375]] rfl (by (try simp only [List.map_toArray, List.map_cons, List.map_nil]); first | done | rfl | (simp only [List.length_drop, List.length_take]; rfl)) ?_; (with_reducible refine (spec_l09Move.calls k1 _ _ x9_1 t373 t374 t375 t376 _ ?side1 ?side2 A14.out).mono ?_); (case side1 => repeat (first | exact (Kd.R_reads' HO_9.out).2.2 | (with_reducible refine Kd.C_alloc ?_ _) | (with_reducible refine Kd.C_drewN ?_ _) | (with_reducible refine Kd.C_drew ?_))); (case side2 => exact (Kd.R_reads' HO_9.out).2.1); rintro e w17 ⟨v377, rfl, ho0, hb⟩; refine ⟨_, rfl, ?_⟩; have n0_ := A0_ (Kd.R_elder' (by (with_reducible repeat (first | apply Ra_ | apply Rn_ | apply Rd_)); exact HO_9.out) (Kd.R_base ho0) hb); have n1_ := A0_ (Kd.R_lower (Kd.R_new' ho0 (Kd.R_lt (by (with_reducible repeat (first | apply Ra_ | apply Rn_ | apply Rd_)); exact HO_9.out))) (below_size (by repeat (first | (with_reducible first | exact HB.out | apply ba_ | apply bn_ | apply bd_ | refine below_set ?_ GE367.out) | exact HB.out)))); have n2_ := A0_ (blk_below (g := gb367) (o := .cells #[.slice (some ad368) l0_0.length c0_0] 32 (0, 0)) (by (with_reducible repeat (first | apply gn_ | apply gd_ | apply ga_)); exact BK367.out) hb); have n3_ := A0_ (below_step (by repeat (first | (with_reducible first | exact HB.out | apply ba_ | apply bn_ | apply bd_ | refine below_set ?_ GE367.out) | exact HB.out)) hb); clear HO_9; clear BK367; clear HB; have HO_9 := n0_; have HO378 := n1_; have BK367 := n2_; have HB := n3_; clear n0_ n1_ n2_ n3_; (try clear hb); (try clear hb2); (try clear hk); (try clear hi); (try clear ho0))))
       go_loopg [11] k1 (fun kq v11 w' => ∃ (x11_2 : Int), v11 = .int .i64 x11_2 ∧ Aside0 (spec_l27Leaves.l1 kq l1 a2 a3 t376 x10_1 x11_2 l0_0 = some r) ∧ Aside0 (kq ≤ k1) ∧ Aside0 (Kd.R k69 69 w' w.heap.size (fun _ => True) v377 t376) ∧ Aside0 (w'.heap[gb367]? = some (.cells #[(.slice (some ad368) l0_0.length c0_0)] 32 (0, 0))) ∧ Aside0 (Below w.heap.size w w'))
       case atStart => exact ⟨(0), (by first | rfl | (simp; done) | (simp [*]; done)), H', ⟨Nat.le_refl _⟩, ⟨by (with_reducible repeat (first | apply Ra_ | apply Rn_ | apply Rd_)); exact Kd.R_mono HO378.out (fun _ hk => trivial)⟩, ⟨by (with_reducible repeat (first | apply gn_ | apply gd_ | apply ga_)); exact BK367.out⟩, ⟨by repeat (first | (with_reducible first | exact HB.out | apply ba_ | apply bn_ | apply bd_ | refine below_set ?_ GE367.out) | exact HB.out)⟩⟩
       case round =>
        clear H'; (try clear c1); (try clear p2); (try clear c3); (try clear p3); (try clear q3); (try clear hx3); (try clear c5); (try clear c5b0); (try clear c6); (try clear c6b0); (try clear c7); (try clear c7b0); (try clear c9); (try clear c11); (try clear c12); (try clear c12b0); (try clear hx368_0); (try clear hx369_0); (try clear hx369_1); (try clear hx369_2); (try clear p2); (try clear p3); (try clear p368); (try clear p369); (try clear q3); (try clear q368); (try clear q369); (obtain ⟨x11_2, rfl, HA, HK2, HO_9, BK367, HB⟩ := hrel)
        cases gk with
        | zero => exact absurd HA.out (by simp [spec_l27Leaves.l1])
        | succ k2 =>
         (have H := HA.out); clear HA; (simp only [spec_l27Leaves.l1] at H); (by_cases c18 : x11_2 < (l1.length : Int))
         ·(rw [if_pos c18] at H); (have c18b0 : decide (x11_2 < (l1.length : Int)) = true := decide_eq_true c18); clear c18; (by_cases c19 : x11_2 = a2)
          ·(rw [if_pos c19] at H); (have c19b0 : (x11_2 == a2) = true := beq_iff_eq.mpr c19); (have c19b1 : (x11_2 != a2) = false := bne_eq_false_iff_eq.mpr c19); clear c19; (have H' := A0_ H); clear H; (try go_wp2); (have n0_ := A0_ (Kd.R_drew HO_9.out)); (have n1_ := A0_ (blk_drew BK367.out)); (have n2_ := A0_ (below_drew1 HB.out)); clear HO_9; clear BK367; clear HB; (have HO_9 := n0_); (have BK367 := n1_); (have HB := n2_); clear n0_ n1_ n2_
           refine start_ (n := 17) (S := fun w' => True) (ds := []) #[ff,ff,ff,ff,ff,ff,ff,ff,ff,ff,ff,ff,ff,ff,ff,ff,ff] (by kernel_rfl) rfl rfl trivial (fun hHeld => ?_); refine with_tabW spec_l27Leaves.tab9 spec_l27Leaves.bits9 (fun HT_ HW_ => ?_)
           (generalize wr.drew = w20 at HO_9 BK367 HB hHeld ⊢)
           refine pure_ (i := 0) (N := some 36) (v := ?_) (a' := ?_) #[tt,ff,ff,ff,ff,ff,ff,ff,ff,ff,ff,ff,ff,ff,ff,ff,ff] rfl rfl (any_of HT_.out (by kernel_rfl)) (fun _ _ _ h => h) (Or.inl ⟨by rfl, ?_⟩) ?_ ?_
           rotate_left
           ·intro w'; go_simp; with_reducible rfl
           rotate_left
           ·(simp only [Act.put, sia_, sz_, ss_, i64_w, i32_w]); rfl
           refine pure_ (i := 1) (N := some 37) (v := ?_) (a' := ?_) #[tt,tt,ff,ff,ff,ff,ff,ff,ff,ff,ff,ff,ff,ff,ff,ff,ff] rfl rfl (any_of HT_.out (by kernel_rfl)) (fun _ _ _ h => h) (Or.inl ⟨by rfl, ?_⟩) ?_ ?_
           rotate_left
           ·intro w'; go_simp; with_reducible rfl
           rotate_left
           ·(simp only [Act.put, sia_, sz_, ss_, i64_w, i32_w]); rfl
           refine pure_ (i := 2) (N := some 38) (v := ?_) (a' := ?_) #[tt,tt,tt,ff,ff,ff,ff,ff,ff,ff,ff,ff,ff,ff,ff,ff,ff] rfl rfl (any_of HT_.out (by kernel_rfl)) (fun _ _ _ h => h) (Or.inl ⟨by rfl, ?_⟩) ?_ ?_
           rotate_left
           ·intro w'; go_simp; with_reducible rfl
           rotate_left
           ·(simp only [Act.put, sia_, sz_, ss_, i64_w, i32_w]); rfl
           refine pure_ (i := 3) (N := some 39) (v := ?_) (a' := ?_) #[tt,tt,tt,tt,ff,ff,ff,ff,ff,ff,ff,ff,ff,ff,ff,ff,ff] rfl rfl (any_of HT_.out (by kernel_rfl)) (fun _ _ _ h => h) (Or.inl ⟨by rfl, ?_⟩) ?_ ?_
           rotate_left
           ·intro w'; go_simp; with_reducible rfl
           rotate_left
           ·(simp only [Act.put, sia_, sz_, ss_, i64_w, i32_w]); rfl
           refine pure_ (i := 4) (N := some 40) (v := undef) (a' := ?_) #[tt,tt,tt,tt,tt,ff,ff,ff,ff,ff,ff,ff,ff,ff,ff,ff,ff] rfl rfl (any_of HT_.out (by kernel_rfl)) (fun _ _ _ h => h) (Or.inr ⟨by rfl, rfl⟩) ?_ ?_
           rotate_left
           ·(simp only [Act.put, sia_, sz_, ss_, i64_w, i32_w]); rfl
           refine pure_ (i := 5) (N := some 41) (v := undef) (a' := ?_) #[tt,tt,tt,tt,tt,tt,ff,ff,ff,ff,ff,ff,ff,ff,ff,ff,ff] rfl rfl (any_of HT_.out (by kernel_rfl)) (fun _ _ _ h => h) (Or.inr ⟨by rfl, rfl⟩) ?_ ?_
           rotate_left
           ·(simp only [Act.put, sia_, sz_, ss_, i64_w, i32_w]); rfl
           refine pure_ (i := 6) (N := some 42) (v := undef) (a' := ?_) #[tt,tt,tt,tt,tt,tt,tt,ff,ff,ff,ff,ff,ff,ff,ff,ff,ff] rfl rfl (any_of HT_.out (by kernel_rfl)) (fun _ _ _ h => h) (Or.inr ⟨by rfl, rfl⟩) ?_ ?_
           rotate_left
           ·(simp only [Act.put, sia_, sz_, ss_, i64_w, i32_w]); rfl
           refine pure_ (i := 7) (N := some 43) (v := undef) (a' := ?_) #[tt,tt,tt,tt,tt,tt,tt,tt,ff,ff,ff,ff,ff,ff,ff,ff,ff] rfl rfl (any_of HT_.out (by kernel_rfl)) (fun _ _ _ h => h) (Or.inr ⟨by rfl, rfl⟩) ?_ ?_
           rotate_left
           ·(simp only [Act.put, sia_, sz_, ss_, i64_w, i32_w]); rfl
           refine pure_ (i := 8) (N := some 44) (v := undef) (a' := ?_) #[tt,tt,tt,tt,tt,tt,tt,tt,tt,ff,ff,ff,ff,ff,ff,ff,ff] rfl rfl (any_of HT_.out (by kernel_rfl)) (fun _ _ _ h => h) (Or.inr ⟨by rfl, rfl⟩) ?_ ?_
           rotate_left
           ·(simp only [Act.put, sia_, sz_, ss_, i64_w, i32_w]); rfl
           refine pure_ (i := 9) (N := some 45) (v := undef) (a' := ?_) #[tt,tt,tt,tt,tt,tt,tt,tt,tt,tt,ff,ff,ff,ff,ff,ff,ff] rfl rfl (any_of HT_.out (by kernel_rfl)) (fun _ _ _ h => h) (Or.inr ⟨by rfl, rfl⟩) ?_ ?_
           rotate_left
           ·(simp only [Act.put, sia_, sz_, ss_, i64_w, i32_w]); rfl
           refine pure_ (i := 10) (N := some 46) (v := undef) (a' := ?_) #[tt,tt,tt,tt,tt,tt,tt,tt,tt,tt,tt,ff,ff,ff,ff,ff,ff] rfl rfl (any_of HT_.out (by kernel_rfl)) (fun _ _ _ h => h) (Or.inr ⟨by rfl, rfl⟩) ?_ ?_
           rotate_left
           ·(simp only [Act.put, sia_, sz_, ss_, i64_w, i32_w]); rfl
           refine pure_ (i := 11) (N := some 47) (v := undef) (a' := ?_) #[tt,tt,tt,tt,tt,tt,tt,tt,tt,tt,tt,tt,ff,ff,ff,ff,ff] rfl rfl (any_of HT_.out (by kernel_rfl)) (fun _ _ _ h => h) (Or.inr ⟨by rfl, rfl⟩) ?_ ?_
           rotate_left
           ·(simp only [Act.put, sia_, sz_, ss_, i64_w, i32_w]); rfl
           refine pure_ (i := 12) (N := some 48) (v := undef) (a' := ?_) #[tt,tt,tt,tt,tt,tt,tt,tt,tt,tt,tt,tt,tt,ff,ff,ff,ff] rfl rfl (any_of HT_.out (by kernel_rfl)) (fun _ _ _ h => h) (Or.inr ⟨by rfl, rfl⟩) ?_ ?_
           rotate_left
           ·(simp only [Act.put, sia_, sz_, ss_, i64_w, i32_w]); rfl
           refine pure_ (i := 13) (N := some 49) (v := undef) (a' := ?_) #[tt,tt,tt,tt,tt,tt,tt,tt,tt,tt,tt,tt,tt,tt,ff,ff,ff] rfl rfl (any_of HT_.out (by kernel_rfl)) (fun _ _ _ h => h) (Or.inr ⟨by rfl, rfl⟩) ?_ ?_
           rotate_left
           ·(simp only [Act.put, sia_, sz_, ss_, i64_w, i32_w]); rfl
           refine pure_ (i := 14) (N := some 50) (v := undef) (a' := ?_) #[tt,tt,tt,tt,tt,tt,tt,tt,tt,tt,tt,tt,tt,tt,tt,ff,ff] rfl rfl (any_of HT_.out (by kernel_rfl)) (fun _ _ _ h => h) (Or.inr ⟨by rfl, rfl⟩) ?_ ?_
           rotate_left
           ·(simp only [Act.put, sia_, sz_, ss_, i64_w, i32_w]); rfl
           refine pure_ (i := 15) (N := some 51) (v := undef) (a' := ?_) #[tt,tt,tt,tt,tt,tt,tt,tt,tt,tt,tt,tt,tt,tt,tt,tt,ff] rfl rfl (any_of HT_.out (by kernel_rfl)) (fun _ _ _ h => h) (Or.inr ⟨by rfl, rfl⟩) ?_ ?_
           rotate_left
           ·(simp only [Act.put, sia_, sz_, ss_, i64_w, i32_w]); rfl
           refine pure_ (i := 16) (N := some 52) (v := ?_) (a' := ?_) #[tt,tt,tt,tt,tt,tt,tt,tt,tt,tt,tt,tt,tt,tt,tt,tt,tt] rfl rfl (any_of HT_.out (by kernel_rfl)) (fun _ _ _ h => h) (Or.inl ⟨by rfl, ?_⟩) ?_ ?_
           rotate_left
           ·intro w'; go_simp; with_reducible rfl
           rotate_left
           ·(simp only [Act.put, sia_, sz_, ss_, i64_w, i32_w]); rfl
           (refine done_ (done_of HT_.out (by kernel_rfl)) ?_); (try go_wp2); (go_roundg k2)
           case measure => have := HK1.out; have := HK2.out; omega
           case rel => exact ⟨(wrap64 (x11_2 + 1)), (by first | rfl | (simp; done) | (simp [*]; done)), H', ⟨by have := HK1.out; have := HK2.out; omega⟩, ⟨by (with_reducible repeat (first | apply Ra_ | apply Rn_ | apply Rd_)); exact HO_9.out⟩, ⟨by (with_reducible repeat (first | apply gn_ | apply gd_ | apply ga_)); exact BK367.out⟩, ⟨by repeat (first | (with_reducible first | exact HB.out | apply ba_ | apply bn_ | apply bd_ | refine below_set ?_ GE367.out) | exact HB.out)⟩⟩
          ·(rw [if_neg c19] at H); (have c19b0 : (x11_2 == a2) = false := beq_eq_false_iff_ne.mpr c19); (have c19b1 : (x11_2 != a2) = true := bne_iff_ne.mpr c19); (by_cases c21 : 0 ≤ x11_2)
           ·(rw [if_pos c21] at H); (have c21b0 : decide (0 ≤ x11_2) = true := decide_eq_true c21); clear c21; (by_cases c22 : x11_2 < (l0_0.length : Int))
            ·(rw [if_pos c22] at H); (have c22b0 : decide (x11_2 < (l0_0.length : Int)) = true := decide_eq_true c22); clear c22; (replace H := Option.bind_eq_some_iff.mp H); (obtain ⟨t381, A230, H⟩ := H); (try dsimp only at H); (have A23 := A0_ A230); clear A230; (replace H := Option.bind_eq_some_iff.mp H); (obtain ⟨t384, A240, H⟩ := H); (try dsimp only at H); (have A24 := A0_ A240); clear A240; (by_cases c25 : t384 = true)
             ·subst c25; (have H1 := H); (rw [if_pos rfl] at H1); clear H; (have H := H1); clear H1; (obtain rfl := Option.some.inj H); (try go_wp2); (have n0_ := A0_ (Kd.R_drew HO_9.out)); (have n1_ := A0_ (blk_drew BK367.out)); (have n2_ := A0_ (below_drew1 HB.out)); clear HO_9; clear BK367; clear HB; (have HO_9 := n0_); (have BK367 := n1_); (have HB := n2_); clear n0_ n1_ n2_; (have p379 : 0 ≤ (x11_2 : Int) := of_decide_eq_true (by first | (with_reducible assumption) | assumption)); (have q379 : x11_2 < (l0_0.length : Int) := of_decide_eq_true (by first | (with_reducible assumption) | assumption)); (obtain ⟨ad379, A379_0, c379_0, e379, hx379_0, hl379_0, hi379_0⟩ := at_L4 HR0_0.out x11_2 p379 q379); (have hw379_0 := hx379_0); (obtain rfl : ad368 = ad379 := (by injection e379)); (replace hx379_0 := (HB.out.cell (World.block_lt_of_cell? w _ hx379_0)).trans hx379_0); (have HR379_0 := A0_ hi379_0); (have HC379_0 := A0_ hl379_0); clear hi379_0 hl379_0; (replace p379 := eq_true p379); (replace q379 := eq_true q379); (have p380 : 0 ≤ (x11_2 : Int) := of_decide_eq_true (by first | (with_reducible assumption) | assumption)); (have q380 : x11_2 < (l1.length : Int) := of_decide_eq_true (by first | (with_reducible assumption) | assumption)); (obtain ⟨ad380, e380, hx380_0, hx380_1, hx380_2⟩ := at_T69 HR1.out x11_2 p380 q380); (have hw380_2 := hx380_2); (have hw380_1 := hx380_1); (have hw380_0 := hx380_0); (obtain rfl : ad369 = ad380 := (by injection e380)); (replace hx380_0 := (HB.out.cell (World.block_lt_of_cell? w _ hx380_0)).trans hx380_0); (replace hx380_1 := (HB.out.cell (World.block_lt_of_cell? w _ hx380_1)).trans hx380_1); (replace hx380_2 := (HB.out.cell (World.block_lt_of_cell? w _ hx380_2)).trans hx380_2); (replace p380 := eq_true p380); (replace q380 := eq_true q380)
              refine start_ (n := 17) (S := fun w' => w'.cell? ⟨gb367, 0, none⟩ = some (.slice (some ad368) l0_0.length c0_0) ∧ w'.cell? (ad368.add (x11_2).toNat) = some (.slice A379_0 (rd_L4 l0_0 x11_2).length c379_0) ∧ w'.cell? (ad369.add ((x11_2).toNat * 3)) = some (.int .i64 ((rd_T69 l1 x11_2).f0)) ∧ w'.cell? ⟨(ad369.add ((x11_2).toNat * 3)).block, (ad369.add ((x11_2).toNat * 3)).off + 1, none⟩ = some (.int .i64 ((rd_T69 l1 x11_2).f1)) ∧ w'.cell? ⟨(ad369.add ((x11_2).toNat * 3)).block, (ad369.add ((x11_2).toNat * 3)).off + 2, none⟩ = some (.int .i64 ((rd_T69 l1 x11_2).f2))) (ds := []) #[ff,ff,ff,ff,ff,ff,ff,ff,ff,ff,ff,ff,ff,ff,ff,ff,ff] (by kernel_rfl) rfl rfl ⟨(blk_cell BK367.out 0).trans rfl, ((HB.out.cell (World.block_lt_of_cell? w _ hw379_0)).trans hw379_0), ((HB.out.cell (World.block_lt_of_cell? w _ hw380_0)).trans hw380_0), ((HB.out.cell (World.block_lt_of_cell? w _ hw380_1)).trans hw380_1), ((HB.out.cell (World.block_lt_of_cell? w _ hw380_2)).trans hw380_2)⟩ (fun hHeld => ?_); refine with_tabW spec_l27Leaves.tab9 spec_l27Leaves.bits9 (fun HT_ HW_ => ?_)
              (generalize wr.drew = w26 at HO_9 BK367 HB HR379_0 hx379_0 hx380_0 hx380_1 hx380_2 hHeld ⊢)
              refine pure_ (i := 0) (N := some 36) (v := ?_) (a' := ?_) #[tt,ff,ff,ff,ff,ff,ff,ff,ff,ff,ff,ff,ff,ff,ff,ff,ff] rfl rfl (any_of HT_.out (by kernel_rfl)) (fun _ _ _ h => h) (Or.inl ⟨by rfl, ?_⟩) ?_ ?_
              rotate_left
              ·intro w'; go_simp; with_reducible rfl
              rotate_left
              ·(simp only [Act.put, sia_, sz_, ss_, i64_w, i32_w]); rfl
              refine pure_ (i := 1) (N := some 37) (v := ?_) (a' := ?_) #[tt,tt,ff,ff,ff,ff,ff,ff,ff,ff,ff,ff,ff,ff,ff,ff,ff] rfl rfl (any_of HT_.out (by kernel_rfl)) (fun _ _ _ h => h) (Or.inl ⟨by rfl, ?_⟩) ?_ ?_
              rotate_left
              ·intro w'; go_simp; with_reducible rfl
              rotate_left
              ·(simp only [Act.put, sia_, sz_, ss_, i64_w, i32_w]); rfl
              refine pure_ (i := 2) (N := some 38) (v := ?_) (a' := ?_) #[tt,tt,tt,ff,ff,ff,ff,ff,ff,ff,ff,ff,ff,ff,ff,ff,ff] rfl rfl (any_of HT_.out (by kernel_rfl)) (fun _ _ _ h => h) (Or.inl ⟨by rfl, ?_⟩) ?_ ?_
              rotate_left
              ·intro w'; go_simp; with_reducible rfl
              rotate_left
              ·(simp only [Act.put, sia_, sz_, ss_, i64_w, i32_w]); rfl
              refine pure_ (i := 3) (N := some 39) (v := ?_) (a' := ?_) #[tt,tt,tt,tt,ff,ff,ff,ff,ff,ff,ff,ff,ff,ff,ff,ff,ff] rfl rfl (any_of HT_.out (by kernel_rfl)) (fun _ _ _ h => h) (Or.inl ⟨by rfl, ?_⟩) ?_ ?_
              rotate_left
              ·intro w'; go_simp; with_reducible rfl
              rotate_left
              ·(simp only [Act.put, sia_, sz_, ss_, i64_w, i32_w]); rfl
              refine pure_ (i := 4) (N := some 40) (v := ?_) (a' := ?_) #[tt,tt,tt,tt,tt,ff,ff,ff,ff,ff,ff,ff,ff,ff,ff,ff,ff] rfl rfl (any_of HT_.out (by kernel_rfl)) (fun _ _ _ h => h) (Or.inl ⟨by rfl, ?_⟩) ?_ ?_
              rotate_left
              ·intro w'; go_simp; with_reducible rfl
              rotate_left
              ·(simp only [Act.put, sia_, sz_, ss_, i64_w, i32_w]); rfl
              refine pure_ (i := 5) (N := some 41) (v := ?_) (a' := ?_) #[tt,tt,tt,tt,tt,tt,ff,ff,ff,ff,ff,ff,ff,ff,ff,ff,ff] rfl rfl (any_of HT_.out (by kernel_rfl)) (fun _ _ _ h => h) (Or.inl ⟨by rfl, ?_⟩) ?_ ?_
              rotate_left
              ·intro w'; go_simp; with_reducible rfl
              rotate_left
              ·(simp only [Act.put, sia_, sz_, ss_, i64_w, i32_w]); rfl
              refine pure_ (i := 7) (N := some 43) (v := ?_) (a' := ?_) #[tt,tt,tt,tt,tt,tt,ff,tt,ff,ff,ff,ff,ff,ff,ff,ff,ff] rfl rfl (any_of HT_.out (by kernel_rfl)) (fun _ _ _ h => h) (Or.inl ⟨by rfl, ?_⟩) ?_ ?_
              rotate_left
              ·intro w'; go_simp; with_reducible rfl
              rotate_left
              ·(simp only [Act.put, sia_, sz_, ss_, i64_w, i32_w]); rfl
              refine pure_ (i := 10) (N := some 46) (v := ?_) (a' := ?_) #[tt,tt,tt,tt,tt,tt,ff,tt,ff,ff,tt,ff,ff,ff,ff,ff,ff] rfl rfl (any_of HT_.out (by kernel_rfl)) (fun _ _ _ h => h) (Or.inl ⟨by rfl, ?_⟩) ?_ ?_
              rotate_left
              ·intro w'; go_simp; with_reducible rfl
              rotate_left
              ·(simp only [Act.put, sia_, sz_, ss_, i64_w, i32_w]); rfl
              refine pure_ (i := 11) (N := some 47) (v := ?_) (a' := ?_) #[tt,tt,tt,tt,tt,tt,ff,tt,ff,ff,tt,tt,ff,ff,ff,ff,ff] rfl rfl (any_of HT_.out (by kernel_rfl)) (fun _ _ _ h => h) (Or.inl ⟨by rfl, ?_⟩) ?_ ?_
              rotate_left
              ·intro w'; go_simp; with_reducible rfl
              rotate_left
              ·(simp only [Act.put, sia_, sz_, ss_, i64_w, i32_w]); rfl
              refine pure_ (i := 12) (N := some 48) (v := ?_) (a' := ?_) #[tt,tt,tt,tt,tt,tt,ff,tt,ff,ff,tt,tt,tt,ff,ff,ff,ff] rfl rfl (any_of HT_.out (by kernel_rfl)) (fun _ _ _ h => h) (Or.inl ⟨by rfl, ?_⟩) ?_ ?_
              rotate_left
              ·intro w'; go_simp; with_reducible rfl
              rotate_left
              ·(simp only [Act.put, sia_, sz_, ss_, i64_w, i32_w]); rfl
              refine take_ (i := 6) (N := some 42) (v := ?_) (a' := ?_) #[tt,tt,tt,tt,tt,tt,tt,tt,ff,ff,tt,tt,tt,ff,ff,ff,ff] rfl rfl (take_ofW HT_.out HW_.out (by kernel_rfl)) (fun _ _ _ h => h) (Or.inl ⟨by rfl, ?_⟩) hHeld ?_ ?_
              rotate_left
              ·(rintro w' ⟨s0, s1, s2, s3, s4⟩); go_simp; with_reducible rfl
              rotate_left
              ·(simp only [Act.put, sia_, sz_, ss_, i64_w, i32_w]); rfl
              refine pure_ (i := 8) (N := some 44) (v := ?_) (a' := ?_) #[tt,tt,tt,tt,tt,tt,tt,tt,tt,ff,tt,tt,tt,ff,ff,ff,ff] rfl rfl (any_of HT_.out (by kernel_rfl)) (fun _ _ _ h => h) (Or.inl ⟨by rfl, ?_⟩) ?_ ?_
              rotate_left
              ·intro w'; go_simp; with_reducible rfl
              rotate_left
              ·(simp only [Act.put, sia_, sz_, ss_, i64_w, i32_w]); rfl
              refine take_ (i := 9) (N := some 45) (v := ?_) (a' := ?_) #[tt,tt,tt,tt,tt,tt,tt,tt,tt,tt,tt,tt,tt,ff,ff,ff,ff] rfl rfl (take_ofW HT_.out HW_.out (by kernel_rfl)) (fun _ _ _ h => h) (Or.inl ⟨by rfl, ?_⟩) hHeld ?_ ?_
              rotate_left
              ·(rintro w' ⟨s0, s1, s2, s3, s4⟩); go_simp; with_reducible rfl
              rotate_left
              ·(simp only [Act.put, sia_, sz_, ss_, i64_w, i32_w]); rfl
              refine take_ (i := 13) (N := some 49) (v := ?_) (a' := ?_) #[tt,tt,tt,tt,tt,tt,tt,tt,tt,tt,tt,tt,tt,tt,ff,ff,ff] rfl rfl (take_ofW HT_.out HW_.out (by kernel_rfl)) (fun _ _ _ h => h) (Or.inl ⟨by rfl, ?_⟩) hHeld ?_ ?_
              rotate_left
              ·(rintro w' ⟨s0, s1, s2, s3, s4⟩); go_simp; with_reducible rfl
              rotate_left
              ·(simp only [Act.put, sia_, sz_, ss_, i64_w, i32_w]); rfl
              refine one_ (i := 14) (N := some 50) #[tt,tt,tt,tt,tt,tt,tt,tt,tt,tt,tt,tt,tt,tt,tt,ff,ff] rfl rfl (one_of HT_.out (by kernel_rfl)) (by decide) (fun K hK => ?_)
              (refine goes_ Try.func71 (by kernel_rfl) rfl #[.slice A379_0 (rd_L4 l0_0 x11_2).length c379_0, .agg #[.int .i64 ((rd_T69 l1 x11_2).f0), .int .i64 ((rd_T69 l1 x11_2).f1), .int .i64 ((rd_T69 l1 x11_2).f2)]] (by rfl) rfl rfl (by (try simp only [List.map_toArray, List.map_cons, List.map_nil]); first | done | rfl | (simp only [List.length_drop, List.length_take]; rfl)) ?_); (with_reducible refine (spec_l09Move.calls k2 _ _ (rd_L4 l0_0 x11_2) ((rd_T69 l1 x11_2).f0) ((rd_T69 l1 x11_2).f1) ((rd_T69 l1 x11_2).f2) t381 _ ?side1 ?side2 A23.out).mono ?_); ((case side1 => repeat (first | exact (Kd.C_below HR379_0.out HB.out) | (with_reducible refine Kd.C_alloc ?_ _) | (with_reducible refine Kd.C_drewN ?_ _) | (with_reducible refine Kd.C_drew ?_)))); ((case side2 => exact HC379_0.out)); (rintro e w27 ⟨v382, rfl, ho0, hb⟩); (refine ⟨_, rfl, ?_⟩); (have n0_ := A0_ (Kd.R_elder' (by (with_reducible repeat (first | apply Ra_ | apply Rn_ | apply Rd_)); exact HO_9.out) (Kd.R_base ho0) hb)); (have n1_ := A0_ (Kd.R_lower (Kd.R_new' ho0 (Kd.R_lt (by (with_reducible repeat (first | apply Ra_ | apply Rn_ | apply Rd_)); exact HO_9.out))) (below_size (by repeat (first | (with_reducible first | exact HB.out | apply ba_ | apply bn_ | apply bd_ | refine below_set ?_ GE367.out) | exact HB.out))))); (have n2_ := A0_ (blk_below (g := gb367) (o := .cells #[.slice (some ad368) l0_0.length c0_0] 32 (0, 0)) (by (with_reducible repeat (first | apply gn_ | apply gd_ | apply ga_)); exact BK367.out) hb)); (have n3_ := A0_ (below_step (by repeat (first | (with_reducible first | exact HB.out | apply ba_ | apply bn_ | apply bd_ | refine below_set ?_ GE367.out) | exact HB.out)) hb)); clear HO_9; clear BK367; clear HB; (have HO_9 := n0_); (have HO383 := n1_); (have BK367 := n2_); (have HB := n3_); clear n0_ n1_ n2_ n3_; ((try clear hb)); ((try clear hb2)); ((try clear hk)); ((try clear hi)); ((try clear ho0)); (obtain ⟨Ao28, co28, eo28⟩ := Kd.R_slice HO_9.out); ((first | subst eo28 | (injection eo28 with f1_ f2_ f3_; have f4_ := f1_.symm; have f5_ := f3_.symm; clear f1_ f2_ f3_; subst f4_; subst f5_))); (obtain ⟨Ao29, co29, eo29⟩ := Kd.R_slice HO383.out); ((first | subst eo29 | (injection eo29 with f1_ f2_ f3_; have f4_ := f1_.symm; have f5_ := f3_.symm; clear f1_ f2_ f3_; subst f4_; subst f5_)))
              refine hK.out _ _ ⟨(blk_cell BK367.out 0).trans rfl, ((HB.out.cell (World.block_lt_of_cell? w _ hw379_0)).trans hw379_0), ((HB.out.cell (World.block_lt_of_cell? w _ hw380_0)).trans hw380_0), ((HB.out.cell (World.block_lt_of_cell? w _ hw380_1)).trans hw380_1), ((HB.out.cell (World.block_lt_of_cell? w _ hw380_2)).trans hw380_2)⟩ (fun hHeld => ?_)
              clear hK K; (refine norm_ (a' := ?_) ?_ ?_); rotate_left
              ·(show Act.put _ (some 50) _ = _); (simp only [Act.put, sia_, sz_, ss_, i64_w, i32_w]); rfl
              refine one_ (i := 15) (N := some 51) #[tt,tt,tt,tt,tt,tt,tt,tt,tt,tt,tt,tt,tt,tt,tt,tt,ff] rfl rfl (one_of HT_.out (by kernel_rfl)) (by decide) (fun K hK => ?_)
              (refine goes_ Try.func78 (by kernel_rfl) rfl #[.slice Ao28 t376.length co28, .slice Ao29 t381.length co29] (by rfl) rfl rfl (by (try simp only [List.map_toArray, List.map_cons, List.map_nil]); first | done | rfl | (simp only [List.length_drop, List.length_take]; rfl)) ?_); (with_reducible refine (spec_l27Meet.calls k2 _ _ t376 _ _ t381 true _ ?side1 ?side2 ?side3 ?side4 A24.out).mono ?_); ((case side1 => repeat (first | exact (Kd.R_reads' HO_9.out).2.2 | (with_reducible refine Kd.C_alloc ?_ _) | (with_reducible refine Kd.C_drewN ?_ _) | (with_reducible refine Kd.C_drew ?_)))); ((case side2 => exact (Kd.R_reads' HO_9.out).2.1)); ((case side3 => repeat (first | exact (Kd.R_reads' HO383.out).2.2 | (with_reducible refine Kd.C_alloc ?_ _) | (with_reducible refine Kd.C_drewN ?_ _) | (with_reducible refine Kd.C_drew ?_)))); ((case side4 => exact (Kd.R_reads' HO383.out).2.1)); (rintro e w30 ⟨rfl, hb⟩); (refine ⟨_, rfl, ?_⟩); (have n0_ := A0_ (Kd.R_below (by (with_reducible repeat (first | apply Ra_ | apply Rn_ | apply Rd_)); exact HO_9.out) hb)); (have n1_ := A0_ (Kd.R_below (by (with_reducible repeat (first | apply Ra_ | apply Rn_ | apply Rd_)); exact HO383.out) hb)); (have n2_ := A0_ (blk_below (g := gb367) (o := .cells #[.slice (some ad368) l0_0.length c0_0] 32 (0, 0)) (by (with_reducible repeat (first | apply gn_ | apply gd_ | apply ga_)); exact BK367.out) hb)); (have n3_ := A0_ (below_step (by repeat (first | (with_reducible first | exact HB.out | apply ba_ | apply bn_ | apply bd_ | refine below_set ?_ GE367.out) | exact HB.out)) hb)); clear HO_9; clear HO383; clear BK367; clear HB; (have HO_9 := n0_); (have HO383 := n1_); (have BK367 := n2_); (have HB := n3_); clear n0_ n1_ n2_ n3_; ((try clear hb)); ((try clear hb2)); ((try clear hk)); ((try clear hi))
              refine hK.out _ _ ⟨(blk_cell BK367.out 0).trans rfl, ((HB.out.cell (World.block_lt_of_cell? w _ hw379_0)).trans hw379_0), ((HB.out.cell (World.block_lt_of_cell? w _ hw380_0)).trans hw380_0), ((HB.out.cell (World.block_lt_of_cell? w _ hw380_1)).trans hw380_1), ((HB.out.cell (World.block_lt_of_cell? w _ hw380_2)).trans hw380_2)⟩ (fun hHeld => ?_)
              clear hK K; (refine norm_ (a' := ?_) ?_ ?_); rotate_left
              ·(show Act.put _ (some 51) _ = _); (simp only [Act.put, sia_, sz_, ss_, i64_w, i32_w]); rfl
              refine pure_ (i := 16) (N := some 52) (v := ?_) (a' := ?_) #[tt,tt,tt,tt,tt,tt,tt,tt,tt,tt,tt,tt,tt,tt,tt,tt,tt] rfl rfl (any_of HT_.out (by kernel_rfl)) (fun _ _ _ h => h) (Or.inl ⟨by rfl, ?_⟩) ?_ ?_
              rotate_left
              ·intro w'; go_simp; with_reducible rfl
              rotate_left
              ·(simp only [Act.put, sia_, sz_, ss_, i64_w, i32_w]); rfl
              (refine done_ (done_of HT_.out (by kernel_rfl)) ?_); (try go_wp2); go_ret; (exact ⟨by first | rfl | (simp [errW_none, errW_some] <;> rfl) | (simp [*, errW_none, errW_some] <;> rfl), by repeat (first | (with_reducible first | exact HB.out | apply ba_ | apply bn_ | apply bd_ | refine below_set ?_ GE367.out) | exact HB.out)⟩)
             ·(replace c25 := Bool.eq_false_iff.mpr c25); subst c25; (have H1 : (spec_l27Leaves.l1 k2 l1 a2 a3 t376 x10_1 (wrap64 (x11_2 + 1)) l0_0) = some r := by rw [if_neg (show ¬ (false = true) by decide)] at H; exact H); clear H; (have H := H1); clear H1; (have H' := A0_ H); clear H; (try go_wp2); (have n0_ := A0_ (Kd.R_drew HO_9.out)); (have n1_ := A0_ (blk_drew BK367.out)); (have n2_ := A0_ (below_drew1 HB.out)); clear HO_9; clear BK367; clear HB; (have HO_9 := n0_); (have BK367 := n1_); (have HB := n2_); clear n0_ n1_ n2_; (have p379 : 0 ≤ (x11_2 : Int) := of_decide_eq_true (by first | (with_reducible assumption) | assumption)); (have q379 : x11_2 < (l0_0.length : Int) := of_decide_eq_true (by first | (with_reducible assumption) | assumption)); (obtain ⟨ad379, A379_0, c379_0, e379, hx379_0, hl379_0, hi379_0⟩ := at_L4 HR0_0.out x11_2 p379 q379); (have hw379_0 := hx379_0); (obtain rfl : ad368 = ad379 := (by injection e379)); (replace hx379_0 := (HB.out.cell (World.block_lt_of_cell? w _ hx379_0)).trans hx379_0); (have HR379_0 := A0_ hi379_0); (have HC379_0 := A0_ hl379_0); clear hi379_0 hl379_0; (replace p379 := eq_true p379); (replace q379 := eq_true q379); (have p380 : 0 ≤ (x11_2 : Int) := of_decide_eq_true (by first | (with_reducible assumption) | assumption)); (have q380 : x11_2 < (l1.length : Int) := of_decide_eq_true (by first | (with_reducible assumption) | assumption)); (obtain ⟨ad380, e380, hx380_0, hx380_1, hx380_2⟩ := at_T69 HR1.out x11_2 p380 q380); (have hw380_2 := hx380_2); (have hw380_1 := hx380_1); (have hw380_0 := hx380_0); (obtain rfl : ad369 = ad380 := (by injection e380)); (replace hx380_0 := (HB.out.cell (World.block_lt_of_cell? w _ hx380_0)).trans hx380_0); (replace hx380_1 := (HB.out.cell (World.block_lt_of_cell? w _ hx380_1)).trans hx380_1); (replace hx380_2 := (HB.out.cell (World.block_lt_of_cell? w _ hx380_2)).trans hx380_2); (replace p380 := eq_true p380); (replace q380 := eq_true q380)
              refine start_ (n := 17) (S := fun w' => w'.cell? ⟨gb367, 0, none⟩ = some (.slice (some ad368) l0_0.length c0_0) ∧ w'.cell? (ad368.add (x11_2).toNat) = some (.slice A379_0 (rd_L4 l0_0 x11_2).length c379_0) ∧ w'.cell? (ad369.add ((x11_2).toNat * 3)) = some (.int .i64 ((rd_T69 l1 x11_2).f0)) ∧ w'.cell? ⟨(ad369.add ((x11_2).toNat * 3)).block, (ad369.add ((x11_2).toNat * 3)).off + 1, none⟩ = some (.int .i64 ((rd_T69 l1 x11_2).f1)) ∧ w'.cell? ⟨(ad369.add ((x11_2).toNat * 3)).block, (ad369.add ((x11_2).toNat * 3)).off + 2, none⟩ = some (.int .i64 ((rd_T69 l1 x11_2).f2))) (ds := []) #[ff,ff,ff,ff,ff,ff,ff,ff,ff,ff,ff,ff,ff,ff,ff,ff,ff] (by kernel_rfl) rfl rfl ⟨(blk_cell BK367.out 0).trans rfl, ((HB.out.cell (World.block_lt_of_cell? w _ hw379_0)).trans hw379_0), ((HB.out.cell (World.block_lt_of_cell? w _ hw380_0)).trans hw380_0), ((HB.out.cell (World.block_lt_of_cell? w _ hw380_1)).trans hw380_1), ((HB.out.cell (World.block_lt_of_cell? w _ hw380_2)).trans hw380_2)⟩ (fun hHeld => ?_); refine with_tabW spec_l27Leaves.tab9 spec_l27Leaves.bits9 (fun HT_ HW_ => ?_)
              (generalize wr.drew = w31 at HO_9 BK367 HB HR379_0 hx379_0 hx380_0 hx380_1 hx380_2 hHeld ⊢)
              refine pure_ (i := 0) (N := some 36) (v := ?_) (a' := ?_) #[tt,ff,ff,ff,ff,ff,ff,ff,ff,ff,ff,ff,ff,ff,ff,ff,ff] rfl rfl (any_of HT_.out (by kernel_rfl)) (fun _ _ _ h => h) (Or.inl ⟨by rfl, ?_⟩) ?_ ?_
              rotate_left
              ·intro w'; go_simp; with_reducible rfl
              rotate_left
              ·(simp only [Act.put, sia_, sz_, ss_, i64_w, i32_w]); rfl
              refine pure_ (i := 1) (N := some 37) (v := ?_) (a' := ?_) #[tt,tt,ff,ff,ff,ff,ff,ff,ff,ff,ff,ff,ff,ff,ff,ff,ff] rfl rfl (any_of HT_.out (by kernel_rfl)) (fun _ _ _ h => h) (Or.inl ⟨by rfl, ?_⟩) ?_ ?_
              rotate_left
              ·intro w'; go_simp; with_reducible rfl
              rotate_left
              ·(simp only [Act.put, sia_, sz_, ss_, i64_w, i32_w]); rfl
              refine pure_ (i := 2) (N := some 38) (v := ?_) (a' := ?_) #[tt,tt,tt,ff,ff,ff,ff,ff,ff,ff,ff,ff,ff,ff,ff,ff,ff] rfl rfl (any_of HT_.out (by kernel_rfl)) (fun _ _ _ h => h) (Or.inl ⟨by rfl, ?_⟩) ?_ ?_
              rotate_left
              ·intro w'; go_simp; with_reducible rfl
              rotate_left
              ·(simp only [Act.put, sia_, sz_, ss_, i64_w, i32_w]); rfl
              refine pure_ (i := 3) (N := some 39) (v := ?_) (a' := ?_) #[tt,tt,tt,tt,ff,ff,ff,ff,ff,ff,ff,ff,ff,ff,ff,ff,ff] rfl rfl (any_of HT_.out (by kernel_rfl)) (fun _ _ _ h => h) (Or.inl ⟨by rfl, ?_⟩) ?_ ?_
              rotate_left
              ·intro w'; go_simp; with_reducible rfl
              rotate_left
              ·(simp only [Act.put, sia_, sz_, ss_, i64_w, i32_w]); rfl
              refine pure_ (i := 4) (N := some 40) (v := ?_) (a' := ?_) #[tt,tt,tt,tt,tt,ff,ff,ff,ff,ff,ff,ff,ff,ff,ff,ff,ff] rfl rfl (any_of HT_.out (by kernel_rfl)) (fun _ _ _ h => h) (Or.inl ⟨by rfl, ?_⟩) ?_ ?_
              rotate_left
              ·intro w'; go_simp; with_reducible rfl
              rotate_left
              ·(simp only [Act.put, sia_, sz_, ss_, i64_w, i32_w]); rfl
              refine pure_ (i := 5) (N := some 41) (v := ?_) (a' := ?_) #[tt,tt,tt,tt,tt,tt,ff,ff,ff,ff,ff,ff,ff,ff,ff,ff,ff] rfl rfl (any_of HT_.out (by kernel_rfl)) (fun _ _ _ h => h) (Or.inl ⟨by rfl, ?_⟩) ?_ ?_
              rotate_left
              ·intro w'; go_simp; with_reducible rfl
              rotate_left
              ·(simp only [Act.put, sia_, sz_, ss_, i64_w, i32_w]); rfl
              refine pure_ (i := 7) (N := some 43) (v := ?_) (a' := ?_) #[tt,tt,tt,tt,tt,tt,ff,tt,ff,ff,ff,ff,ff,ff,ff,ff,ff] rfl rfl (any_of HT_.out (by kernel_rfl)) (fun _ _ _ h => h) (Or.inl ⟨by rfl, ?_⟩) ?_ ?_
              rotate_left
              ·intro w'; go_simp; with_reducible rfl
              rotate_left
              ·(simp only [Act.put, sia_, sz_, ss_, i64_w, i32_w]); rfl
              refine pure_ (i := 10) (N := some 46) (v := ?_) (a' := ?_) #[tt,tt,tt,tt,tt,tt,ff,tt,ff,ff,tt,ff,ff,ff,ff,ff,ff] rfl rfl (any_of HT_.out (by kernel_rfl)) (fun _ _ _ h => h) (Or.inl ⟨by rfl, ?_⟩) ?_ ?_
              rotate_left
              ·intro w'; go_simp; with_reducible rfl
              rotate_left
              ·(simp only [Act.put, sia_, sz_, ss_, i64_w, i32_w]); rfl
              refine pure_ (i := 11) (N := some 47) (v := ?_) (a' := ?_) #[tt,tt,tt,tt,tt,tt,ff,tt,ff,ff,tt,tt,ff,ff,ff,ff,ff] rfl rfl (any_of HT_.out (by kernel_rfl)) (fun _ _ _ h => h) (Or.inl ⟨by rfl, ?_⟩) ?_ ?_
              rotate_left
              ·intro w'; go_simp; with_reducible rfl
              rotate_left
              ·(simp only [Act.put, sia_, sz_, ss_, i64_w, i32_w]); rfl
              refine pure_ (i := 12) (N := some 48) (v := ?_) (a' := ?_) #[tt,tt,tt,tt,tt,tt,ff,tt,ff,ff,tt,tt,tt,ff,ff,ff,ff] rfl rfl (any_of HT_.out (by kernel_rfl)) (fun _ _ _ h => h) (Or.inl ⟨by rfl, ?_⟩) ?_ ?_
              rotate_left
              ·intro w'; go_simp; with_reducible rfl
              rotate_left
              ·(simp only [Act.put, sia_, sz_, ss_, i64_w, i32_w]); rfl
              refine take_ (i := 6) (N := some 42) (v := ?_) (a' := ?_) #[tt,tt,tt,tt,tt,tt,tt,tt,ff,ff,tt,tt,tt,ff,ff,ff,ff] rfl rfl (take_ofW HT_.out HW_.out (by kernel_rfl)) (fun _ _ _ h => h) (Or.inl ⟨by rfl, ?_⟩) hHeld ?_ ?_
              rotate_left
              ·(rintro w' ⟨s0, s1, s2, s3, s4⟩); go_simp; with_reducible rfl
              rotate_left
              ·(simp only [Act.put, sia_, sz_, ss_, i64_w, i32_w]); rfl
              refine pure_ (i := 8) (N := some 44) (v := ?_) (a' := ?_) #[tt,tt,tt,tt,tt,tt,tt,tt,tt,ff,tt,tt,tt,ff,ff,ff,ff] rfl rfl (any_of HT_.out (by kernel_rfl)) (fun _ _ _ h => h) (Or.inl ⟨by rfl, ?_⟩) ?_ ?_
              rotate_left
              ·intro w'; go_simp; with_reducible rfl
              rotate_left
              ·(simp only [Act.put, sia_, sz_, ss_, i64_w, i32_w]); rfl
              refine take_ (i := 9) (N := some 45) (v := ?_) (a' := ?_) #[tt,tt,tt,tt,tt,tt,tt,tt,tt,tt,tt,tt,tt,ff,ff,ff,ff] rfl rfl (take_ofW HT_.out HW_.out (by kernel_rfl)) (fun _ _ _ h => h) (Or.inl ⟨by rfl, ?_⟩) hHeld ?_ ?_
              rotate_left
              ·(rintro w' ⟨s0, s1, s2, s3, s4⟩); go_simp; with_reducible rfl
              rotate_left
              ·(simp only [Act.put, sia_, sz_, ss_, i64_w, i32_w]); rfl
              refine take_ (i := 13) (N := some 49) (v := ?_) (a' := ?_) #[tt,tt,tt,tt,tt,tt,tt,tt,tt,tt,tt,tt,tt,tt,ff,ff,ff] rfl rfl (take_ofW HT_.out HW_.out (by kernel_rfl)) (fun _ _ _ h => h) (Or.inl ⟨by rfl, ?_⟩) hHeld ?_ ?_
              rotate_left
              ·(rintro w' ⟨s0, s1, s2, s3, s4⟩); go_simp; with_reducible rfl
              rotate_left
              ·(simp only [Act.put, sia_, sz_, ss_, i64_w, i32_w]); rfl
              refine one_ (i := 14) (N := some 50) #[tt,tt,tt,tt,tt,tt,tt,tt,tt,tt,tt,tt,tt,tt,tt,ff,ff] rfl rfl (one_of HT_.out (by kernel_rfl)) (by decide) (fun K hK => ?_)
              (refine goes_ Try.func71 (by kernel_rfl) rfl #[.slice A379_0 (rd_L4 l0_0 x11_2).length c379_0, .agg #[.int .i64 ((rd_T69 l1 x11_2).f0), .int .i64 ((rd_T69 l1 x11_2).f1), .int .i64 ((rd_T69 l1 x11_2).f2)]] (by rfl) rfl rfl (by (try simp only [List.map_toArray, List.map_cons, List.map_nil]); first | done | rfl | (simp only [List.length_drop, List.length_take]; rfl)) ?_); (with_reducible refine (spec_l09Move.calls k2 _ _ (rd_L4 l0_0 x11_2) ((rd_T69 l1 x11_2).f0) ((rd_T69 l1 x11_2).f1) ((rd_T69 l1 x11_2).f2) t381 _ ?side1 ?side2 A23.out).mono ?_); ((case side1 => repeat (first | exact (Kd.C_below HR379_0.out HB.out) | (with_reducible refine Kd.C_alloc ?_ _) | (with_reducible refine Kd.C_drewN ?_ _) | (with_reducible refine Kd.C_drew ?_)))); ((case side2 => exact HC379_0.out)); (rintro e w32 ⟨v382, rfl, ho0, hb⟩); (refine ⟨_, rfl, ?_⟩); (have n0_ := A0_ (Kd.R_elder' (by (with_reducible repeat (first | apply Ra_ | apply Rn_ | apply Rd_)); exact HO_9.out) (Kd.R_base ho0) hb)); (have n1_ := A0_ (Kd.R_lower (Kd.R_new' ho0 (Kd.R_lt (by (with_reducible repeat (first | apply Ra_ | apply Rn_ | apply Rd_)); exact HO_9.out))) (below_size (by repeat (first | (with_reducible first | exact HB.out | apply ba_ | apply bn_ | apply bd_ | refine below_set ?_ GE367.out) | exact HB.out))))); (have n2_ := A0_ (blk_below (g := gb367) (o := .cells #[.slice (some ad368) l0_0.length c0_0] 32 (0, 0)) (by (with_reducible repeat (first | apply gn_ | apply gd_ | apply ga_)); exact BK367.out) hb)); (have n3_ := A0_ (below_step (by repeat (first | (with_reducible first | exact HB.out | apply ba_ | apply bn_ | apply bd_ | refine below_set ?_ GE367.out) | exact HB.out)) hb)); clear HO_9; clear BK367; clear HB; (have HO_9 := n0_); (have HO383 := n1_); (have BK367 := n2_); (have HB := n3_); clear n0_ n1_ n2_ n3_; ((try clear hb)); ((try clear hb2)); ((try clear hk)); ((try clear hi)); ((try clear ho0)); (obtain ⟨Ao33, co33, eo33⟩ := Kd.R_slice HO_9.out); ((first | subst eo33 | (injection eo33 with f1_ f2_ f3_; have f4_ := f1_.symm; have f5_ := f3_.symm; clear f1_ f2_ f3_; subst f4_; subst f5_))); (obtain ⟨Ao34, co34, eo34⟩ := Kd.R_slice HO383.out); ((first | subst eo34 | (injection eo34 with f1_ f2_ f3_; have f4_ := f1_.symm; have f5_ := f3_.symm; clear f1_ f2_ f3_; subst f4_; subst f5_)))
              refine hK.out _ _ ⟨(blk_cell BK367.out 0).trans rfl, ((HB.out.cell (World.block_lt_of_cell? w _ hw379_0)).trans hw379_0), ((HB.out.cell (World.block_lt_of_cell? w _ hw380_0)).trans hw380_0), ((HB.out.cell (World.block_lt_of_cell? w _ hw380_1)).trans hw380_1), ((HB.out.cell (World.block_lt_of_cell? w _ hw380_2)).trans hw380_2)⟩ (fun hHeld => ?_)
              clear hK K; (refine norm_ (a' := ?_) ?_ ?_); rotate_left
              ·(show Act.put _ (some 50) _ = _); (simp only [Act.put, sia_, sz_, ss_, i64_w, i32_w]); rfl
              refine one_ (i := 15) (N := some 51) #[tt,tt,tt,tt,tt,tt,tt,tt,tt,tt,tt,tt,tt,tt,tt,tt,ff] rfl rfl (one_of HT_.out (by kernel_rfl)) (by decide) (fun K hK => ?_)
              (refine goes_ Try.func78 (by kernel_rfl) rfl #[.slice Ao33 t376.length co33, .slice Ao34 t381.length co34] (by rfl) rfl rfl (by (try simp only [List.map_toArray, List.map_cons, List.map_nil]); first | done | rfl | (simp only [List.length_drop, List.length_take]; rfl)) ?_); (with_reducible refine (spec_l27Meet.calls k2 _ _ t376 _ _ t381 false _ ?side1 ?side2 ?side3 ?side4 A24.out).mono ?_); ((case side1 => repeat (first | exact (Kd.R_reads' HO_9.out).2.2 | (with_reducible refine Kd.C_alloc ?_ _) | (with_reducible refine Kd.C_drewN ?_ _) | (with_reducible refine Kd.C_drew ?_)))); ((case side2 => exact (Kd.R_reads' HO_9.out).2.1)); ((case side3 => repeat (first | exact (Kd.R_reads' HO383.out).2.2 | (with_reducible refine Kd.C_alloc ?_ _) | (with_reducible refine Kd.C_drewN ?_ _) | (with_reducible refine Kd.C_drew ?_)))); ((case side4 => exact (Kd.R_reads' HO383.out).2.1)); (rintro e w35 ⟨rfl, hb⟩); (refine ⟨_, rfl, ?_⟩); (have n0_ := A0_ (Kd.R_below (by (with_reducible repeat (first | apply Ra_ | apply Rn_ | apply Rd_)); exact HO_9.out) hb)); (have n1_ := A0_ (Kd.R_below (by (with_reducible repeat (first | apply Ra_ | apply Rn_ | apply Rd_)); exact HO383.out) hb)); (have n2_ := A0_ (blk_below (g := gb367) (o := .cells #[.slice (some ad368) l0_0.length c0_0] 32 (0, 0)) (by (with_reducible repeat (first | apply gn_ | apply gd_ | apply ga_)); exact BK367.out) hb)); (have n3_ := A0_ (below_step (by repeat (first | (with_reducible first | exact HB.out | apply ba_ | apply bn_ | apply bd_ | refine below_set ?_ GE367.out) | exact HB.out)) hb)); clear HO_9; clear HO383; clear BK367; clear HB; (have HO_9 := n0_); (have HO383 := n1_); (have BK367 := n2_); (have HB := n3_); clear n0_ n1_ n2_ n3_; ((try clear hb)); ((try clear hb2)); ((try clear hk)); ((try clear hi))
              refine hK.out _ _ ⟨(blk_cell BK367.out 0).trans rfl, ((HB.out.cell (World.block_lt_of_cell? w _ hw379_0)).trans hw379_0), ((HB.out.cell (World.block_lt_of_cell? w _ hw380_0)).trans hw380_0), ((HB.out.cell (World.block_lt_of_cell? w _ hw380_1)).trans hw380_1), ((HB.out.cell (World.block_lt_of_cell? w _ hw380_2)).trans hw380_2)⟩ (fun hHeld => ?_)
              clear hK K; (refine norm_ (a' := ?_) ?_ ?_); rotate_left
              ·(show Act.put _ (some 51) _ = _); (simp only [Act.put, sia_, sz_, ss_, i64_w, i32_w]); rfl
              refine pure_ (i := 16) (N := some 52) (v := ?_) (a' := ?_) #[tt,tt,tt,tt,tt,tt,tt,tt,tt,tt,tt,tt,tt,tt,tt,tt,tt] rfl rfl (any_of HT_.out (by kernel_rfl)) (fun _ _ _ h => h) (Or.inl ⟨by rfl, ?_⟩) ?_ ?_
              rotate_left
              ·intro w'; go_simp; with_reducible rfl
              rotate_left
              ·(simp only [Act.put, sia_, sz_, ss_, i64_w, i32_w]); rfl
              (refine done_ (done_of HT_.out (by kernel_rfl)) ?_); (try go_wp2); (go_roundg k2)
              case measure => have := HK1.out; have := HK2.out; omega
              case rel => exact ⟨(wrap64 (x11_2 + 1)), (by first | rfl | (simp; done) | (simp [*]; done)), H', ⟨by have := HK1.out; have := HK2.out; omega⟩, ⟨by (with_reducible repeat (first | apply Ra_ | apply Rn_ | apply Rd_)); exact Kd.R_mono HO_9.out (fun _ hk => trivial)⟩, ⟨by (with_reducible repeat (first | apply gn_ | apply gd_ | apply ga_)); exact BK367.out⟩, ⟨by repeat (first | (with_reducible first | exact HB.out | apply ba_ | apply bn_ | apply bd_ | refine below_set ?_ GE367.out) | exact HB.out)⟩⟩
            ·(rw [if_neg c22] at H); (exact absurd H (by simp))
           ·(rw [if_neg c21] at H); (exact absurd H (by simp))
         ·(rw [if_neg c18] at H); (have c18b0 : decide (x11_2 < (l1.length : Int)) = false := decide_eq_false c18); clear c18; (have H' := A0_ H); clear H; go_wp2; (go_roundg k2)
          case measure => have := HK1.out; have := HK2.out; omega
          case rel => exact ⟨(t376), (wrap64 (x10_1 + 1)), (by first | rfl | (simp; done) | (simp [*]; done)), H', ⟨by have := HK1.out; have := HK2.out; omega⟩, ⟨by (with_reducible repeat (first | apply Ra_ | apply Rn_ | apply Rd_)); exact HO_9.out⟩, ⟨by (with_reducible repeat (first | apply gn_ | apply gd_ | apply ga_)); exact BK367.out⟩, ⟨by repeat (first | (with_reducible first | exact HB.out | apply ba_ | apply bn_ | apply bd_ | refine below_set ?_ GE367.out) | exact HB.out)⟩⟩
      ·(rw [if_neg c12] at H); (have c12b0 : decide (x10_1 < 40) = false := decide_eq_false c12); clear c12; (obtain rfl := Option.some.inj H); go_wp2; go_ret; (exact ⟨by first | rfl | (simp [errW_none, errW_some] <;> rfl) | (simp [*, errW_none, errW_some] <;> rfl), by repeat (first | (with_reducible first | exact HB.out | apply ba_ | apply bn_ | apply bd_ | refine below_set ?_ GE367.out) | exact HB.out)⟩)
   ·(rw [if_neg c7] at H); (exact absurd H (by simp))
  ·(rw [if_neg c6] at H); (exact absurd H (by simp))
 ·(rw [if_neg c5] at H); (exact absurd H (by simp))
end Go.Proofs.Ytlbckkagjekhnaa.A

namespace Go.Proofs.Ytlbckkagjekhnaa.A
open Go.RowKit Go.Proofs.YtlbckkagjekhnaaW.PrintWords Go.Proofs.YtlbckkagjekhnaaW.PrintLast Go.Proofs.YtlbckkagjekhnaaW.PrintMore
attribute [local go_sem] max2_int min2_int max_two min_two max_three min_three max_four min_four   -- for this text's walks alone
set_option linter.unusedVariables false
set_option linter.unusedSimpArgs false
def spec_l27Free.l0 : Nat → List (S69) → List Int → Int → List (List (S69)) → Option (List Int)
  | 0, _, _, _, _ => none
  | k + 1, x1, x5, x6, x386000 => if x6 < (wrap64 (6 * (x386000.length : Int))) then ((spec_l27Leaves.f k x386000 x1 (wrap64 (Int.tdiv x6 6)) (Int.tmod x6 6)).bind fun t389 => (if t389 = true then (if x5.length < 17592186044416 then (spec_l27Free.l0 k x1 (x5 ++ [x6]) (wrap64 (x6 + 1)) x386000) else (none)) else (spec_l27Free.l0 k x1 x5 (wrap64 (x6 + 1)) x386000))) else (some x5)
def spec_l27Free.f (k : Nat) (l0_0 : List (List (S69))) (l1 : List (S69)) : Option (List Int) := spec_l27Free.l0 k l1 (([] : List Int)) 0 l0_0
set_option maxHeartbeats 8000000 in
set_option maxRecDepth 100000 in
theorem spec_l27Free.calls (k : Nat) (A0_0 : Option Addr) (c0_0 : Nat) (l0_0 : List (List (S69))) (A1 : Option Addr) (c1 : Nat) (l1 : List (S69)) (r : List Int) (w : World) (hr0_0 : Kd.C (Kd.slice 69 k69) w A0_0 l0_0.length l0_0) (hc0_0 : l0_0.length ≤ c0_0) (hr1 : Kd.C k69 w A1 l1.length l1) (hc1 : l1.length ≤ c1) (h : spec_l27Free.f k l0_0 l1 = some r) :
    Calls Try.prog 65 #[.agg #[.slice A0_0 l0_0.length c0_0], .slice A1 l1.length c1] w fun e w' => ∃ v0_ : Value, e = .returned (v0_) ∧ Kd.R (Kd.int .i64) 2 w' w.heap.size (fun _ => True) v0_ r ∧ Below w.heap.size w w' := by
 (have hu32 := Try.underlying32); (have HR0_0 := A0_ hr0_0); (have HC0_0 := A0_ hc0_0); clear hr0_0 hc0_0; (have HR1 := A0_ hr1); (have HC1 := A0_ hc1); clear hr1 hc1; (have HB := A0_ (Below.refl w.heap.size w)); (have H : (spec_l27Free.l0 k l1 (([] : List Int)) 0 l0_0) = some r := h); clear h; (obtain ⟨y386, hy386⟩ : ∃ y_ : List Int, y_ = (([] : List Int)) := ⟨_, rfl⟩); (replace H : (spec_l27Free.l0 k l1 y386 0 l0_0) = some r := by first | (rw [hy386]; with_reducible exact H) | (have H2_ := (Option.bind_some _ _).symm.trans H; rw [hy386]; with_reducible exact H2_) | (have H2_ := (Option.bind_some _ _).symm.trans H; with_reducible exact H2_) | with_reducible exact H | (rw [hy386]; exact H) | exact H); (have Ny386 := A0_ hy386); clear hy386; (have H' := A0_ H); clear H; (go_enter Try.func65, Try.ntmps65)
 go_wp2_with (first | ((with_reducible refine gate_dst (N := 2) rfl ?_); refine box_event ?hg (N := 2) ?hd (cs := #[.slice A0_0 l0_0.length c0_0]) (t := 32) ?hr ?_; (case hd => rfl); (case hg => rfl); (case hr => first | (go_simp; done) | (go_simp; rfl)); intro gb385 hg w3 hbox hb; have n0_ := A0_ (below_step (by repeat (first | (with_reducible first | exact HB.out | apply ba_ | apply bn_ | apply bd_) | exact HB.out)) hb); have n1_ := A0_ (hbox); have n2_ := A0_ ((by rw [hg]; exact (below_size (by repeat (first | (with_reducible first | exact HB.out | apply ba_ | apply bn_ | apply bd_) | exact HB.out))) : w.heap.size ≤ gb385)); have n3_ := A0_ ((by rw [hg]; exact (below_size (by repeat (first | (with_reducible first | exact HB.out | apply ba_ | apply bn_ | apply bd_) | exact HB.out))) : w.heap.size ≤ gb385)); clear HB; have HB := n0_; have BK385 := n1_; have GW385 := n2_; have GE385 := n3_; clear n0_ n1_ n2_ n3_; clear hb hbox hg) | ((with_reducible refine gate_dst (N := 7) rfl ?_); refine Kd.R_lit (Kd.int .i64) _ 2 ?hg (N := 7) ?hd (xs := ([] : List Int)) (inner := []) (ok := fun _ => True) (okp := fun _ => True) ?hr ?hp (fun _ hk => hk) trivial (Below.refl _ _) (Nat.le_refl _) (by simp) ?_; (case hd => rfl); (case hg => rfl); (case hr => first | (go_simp; done) | (go_simp; rfl)); (case hp => exact (Reps.none _ _)); intro v387 w4 ho5 hb hg_ hnew_; clear hg_ hnew_; (first | rw [← Ny386.out] at ho5 | (simp only [Int.reduceToNat] at ho5; rw [← Ny386.out] at ho5)); have n0_ := A0_ (Kd.R_lower ho5 (below_size (by repeat (first | (with_reducible first | exact HB.out | apply ba_ | apply bn_ | apply bd_ | refine below_set ?_ GE385.out) | exact HB.out)))); have n1_ := A0_ (blk_below (g := gb385) (o := .cells #[.slice A0_0 l0_0.length c0_0] 32 (0, 0)) (by (with_reducible repeat (first | apply gn_ | apply gd_ | apply ga_)); exact BK385.out) hb); have n2_ := A0_ (below_step (by repeat (first | (with_reducible first | exact HB.out | apply ba_ | apply bn_ | apply bd_ | refine below_set ?_ GE385.out) | exact HB.out)) hb); clear BK385; clear HB; have HO388 := n0_; have BK385 := n1_; have HB := n2_; clear n0_ n1_ n2_; clear hb ho5))
 go_loopg [5, 6] k (fun kq v5 v6 w' => ∃ (x5_1 : List Int) (x6_1 : Int), v6 = .int .i64 x6_1 ∧ Aside0 (spec_l27Free.l0 kq l1 x5_1 x6_1 l0_0 = some r) ∧ Aside0 (kq ≤ k) ∧ Aside0 (Kd.R (Kd.int .i64) 2 w' w.heap.size (fun _ => True) v5 x5_1) ∧ Aside0 (w'.heap[gb385]? = some (.cells #[(.slice A0_0 l0_0.length c0_0)] 32 (0, 0))) ∧ Aside0 (Below w.heap.size w w'))
 case atStart => exact ⟨(y386), (0), (by first | rfl | (simp; done) | (simp [*]; done)), H', ⟨Nat.le_refl _⟩, ⟨by (with_reducible repeat (first | apply Ra_ | apply Rn_ | apply Rd_)); exact HO388.out⟩, ⟨by (with_reducible repeat (first | apply gn_ | apply gd_ | apply ga_)); exact BK385.out⟩, ⟨by repeat (first | (with_reducible first | exact HB.out | apply ba_ | apply bn_ | apply bd_ | refine below_set ?_ GE385.out) | exact HB.out)⟩⟩
 case round =>
  clear H'; (try clear c1); (try clear p2); (obtain ⟨x5_1, x6_1, rfl, HA, HK1, HO_5, BK385, HB⟩ := hrel)
  cases gk with
  | zero => exact absurd HA.out (by simp [spec_l27Free.l0])
  | succ k1 =>
   (have H := HA.out); clear HA; (simp only [spec_l27Free.l0] at H); (by_cases c6 : x6_1 < (wrap64 (6 * (l0_0.length : Int))))
   ·(rw [if_pos c6] at H); (have c6b0 : decide (x6_1 < (wrap64 (6 * (l0_0.length : Int)))) = true := decide_eq_true c6); clear c6; (replace H := Option.bind_eq_some_iff.mp H); (obtain ⟨t389, A70, H⟩ := H); (try dsimp only at H); (have A7 := A0_ A70); clear A70; (have H0_ := A0_ H); clear H; (have hcz8_0 : wr.cell? ⟨gb385, 0, none⟩ = some (.slice A0_0 l0_0.length c0_0) := (blk_cell BK385.out 0).trans rfl); (have hfz8_0 := blk_frozen BK385.out 0); (go_wp2_with (first | ((with_reducible refine gate_callee (f := 91) rfl ?_); refine goesL_ (some 22) rfl rfl Try.func91 (by kernel_rfl) rfl #[.agg #[.slice A0_0 l0_0.length c0_0], .slice A1 l1.length c1, .int .i64 (wrap64 (Int.tdiv x6_1 6)), .int .i64 (Int.tmod x6_1 6)] rfl (by (try simp only [List.map_toArray, List.map_cons, List.map_nil]); first | done | rfl | (simp only [List.length_drop, List.length_take]; rfl)) ?_; (with_reducible refine (spec_l27Leaves.calls k1 _ _ l0_0 _ _ l1 (wrap64 (Int.tdiv x6_1 6)) (Int.tmod x6_1 6) t389 _ ?side1 ?side2 ?side3 ?side4 A7.out).mono ?_); (case side1 => repeat (first | exact (Kd.C_below HR0_0.out HB.out) | (with_reducible refine Kd.C_alloc ?_ _) | (with_reducible refine Kd.C_drewN ?_ _) | (with_reducible refine Kd.C_drew ?_))); (case side2 => exact HC0_0.out); (case side3 => repeat (first | exact (Kd.C_below HR1.out HB.out) | (with_reducible refine Kd.C_alloc ?_ _) | (with_reducible refine Kd.C_drewN ?_ _) | (with_reducible refine Kd.C_drew ?_))); (case side4 => exact HC1.out); rintro e w9 ⟨rfl, hb⟩; refine ⟨_, rfl, ?_⟩; have n0_ := A0_ (Kd.R_below (by (with_reducible repeat (first | apply Ra_ | apply Rn_ | apply Rd_)); exact HO_5.out) hb); have n1_ := A0_ (blk_below (g := gb385) (o := .cells #[.slice A0_0 l0_0.length c0_0] 32 (0, 0)) (by (with_reducible repeat (first | apply gn_ | apply gd_ | apply ga_)); exact BK385.out) hb); have n2_ := A0_ (below_step (by repeat (first | (with_reducible first | exact HB.out | apply ba_ | apply bn_ | apply bd_ | refine below_set ?_ GE385.out) | exact HB.out)) hb); clear HO_5; clear BK385; clear HB; have HO_5 := n0_; have BK385 := n1_; have HB := n2_; clear n0_ n1_ n2_; (try clear hb); (try clear hb2); (try clear hk); (try clear hi); refine Stop0.out ?_))); (refine Stop0.mk ?_); (have H := H0_.out); clear H0_; (by_cases c10 : t389 = true)
    ·subst c10; (have H1 := H); (rw [if_pos rfl] at H1); clear H; (have H := H1); clear H1; (by_cases c11 : x5_1.length < 17592186044416)
     ·(rw [if_pos c11] at H); (have LMc11 := A0_ c11); clear c11; (obtain ⟨y390, hy390⟩ : ∃ y_ : List Int, y_ = (x5_1 ++ [x6_1]) := ⟨_, rfl⟩); (replace H : (spec_l27Free.l0 k1 l1 y390 (wrap64 (x6_1 + 1)) l0_0) = some r := by first | (rw [hy390]; with_reducible exact H) | (have H2_ := (Option.bind_some _ _).symm.trans H; rw [hy390]; with_reducible exact H2_) | (have H2_ := (Option.bind_some _ _).symm.trans H; with_reducible exact H2_) | with_reducible exact H | (rw [hy390]; exact H) | exact H); (have Ny390 := A0_ hy390); clear hy390; (have H' := A0_ H); clear H
      go_wp2_with (first | ((with_reducible refine gate_builtin (b := .append) (xs := #[.tmp 23, .tmp 25]) rfl ?_); at_builtin; refine Kd.R_append (Kd.int .i64) (w0 := w) w.heap.size rfl (.tmp 23) (.tmp 25) 53 2 (.int .i64 0) 8 rfl Try.underlying53 info2 rfl (by decide) (by omega) u5 x5_1 x6_1 [.int .i64 x6_1] (fun _ => True) (fun _ => False) rfl rfl ?aP (fun _ hk => hk.elim) ?aF ?aO ?aB ?aS ?aL ?_; (case aP => exact rfl); (case aB => exact (by repeat (first | (with_reducible first | exact HB.out | apply ba_ | apply bn_ | apply bd_ | refine below_set ?_ GE385.out) | exact HB.out))); (case aF => exact (fun _ _ => trivial)); (case aO => exact (by (with_reducible repeat (first | apply Ra_ | apply Rn_ | apply Rd_)); exact HO_5.out)); (case aS => exact (below_size (by repeat (first | (with_reducible first | exact HB.out | apply ba_ | apply bn_ | apply bd_ | refine below_set ?_ GE385.out) | exact HB.out)))); (case aL => have := LMc11.out; omega); intro v391 w12 ho hb hg hat; rw [← Ny390.out] at ho; have n0_ := A0_ (blk_grown (g := gb385) (o := .cells #[.slice A0_0 l0_0.length c0_0] 32 (0, 0)) (by (with_reducible repeat (first | apply gn_ | apply gd_ | apply ga_)); exact BK385.out) hg (Kd.R_ne HO_5.out BK385.out (by decide))); have n1_ := A0_ (hb); have n2_ := A0_ (ho); clear BK385; clear HB; clear HO_5; have BK385 := n0_; have HB := n1_; have HO392 := n2_; clear n0_ n1_ n2_; clear ho hb hg hat))
      (go_roundg k1)
      case measure => have := HK1.out; omega
      case rel => exact ⟨(y390), (wrap64 (x6_1 + 1)), (by first | rfl | (simp; done) | (simp [*]; done)), H', ⟨by have := HK1.out; omega⟩, ⟨by (with_reducible repeat (first | apply Ra_ | apply Rn_ | apply Rd_)); exact HO392.out⟩, ⟨by (with_reducible repeat (first | apply gn_ | apply gd_ | apply ga_)); exact BK385.out⟩, ⟨by repeat (first | (with_reducible first | exact HB.out | apply ba_ | apply bn_ | apply bd_ | refine below_set ?_ GE385.out) | exact HB.out)⟩⟩
     ·(rw [if_neg c11] at H); (exact absurd H (by simp))
    ·(replace c10 := Bool.eq_false_iff.mpr c10); subst c10; (have H1 : (spec_l27Free.l0 k1 l1 x5_1 (wrap64 (x6_1 + 1)) l0_0) = some r := by rw [if_neg (show ¬ (false = true) by decide)] at H; exact H); clear H; (have H := H1); clear H1; (have H' := A0_ H); clear H; go_wp2; (go_roundg k1)
     case measure => have := HK1.out; omega
     case rel => exact ⟨(x5_1), (wrap64 (x6_1 + 1)), (by first | rfl | (simp; done) | (simp [*]; done)), H', ⟨by have := HK1.out; omega⟩, ⟨by (with_reducible repeat (first | apply Ra_ | apply Rn_ | apply Rd_)); exact HO_5.out⟩, ⟨by (with_reducible repeat (first | apply gn_ | apply gd_ | apply ga_)); exact BK385.out⟩, ⟨by repeat (first | (with_reducible first | exact HB.out | apply ba_ | apply bn_ | apply bd_ | refine below_set ?_ GE385.out) | exact HB.out)⟩⟩
   ·(rw [if_neg c6] at H); (have c6b0 : decide (x6_1 < (wrap64 (6 * (l0_0.length : Int)))) = false := decide_eq_false c6); clear c6; (obtain rfl := Option.some.inj H); (have hcz13_0 : wr.cell? ⟨gb385, 0, none⟩ = some (.slice A0_0 l0_0.length c0_0) := (blk_cell BK385.out 0).trans rfl); (have hfz13_0 := blk_frozen BK385.out 0); go_wp2; go_ret; (exact ⟨_, by first | rfl | (simp [errW_none, errW_some] <;> rfl) | (simp [*, errW_none, errW_some] <;> rfl), by (with_reducible repeat (first | apply Ra_ | apply Rn_ | apply Rd_)); exact HO_5.out, by repeat (first | (with_reducible first | exact HB.out | apply ba_ | apply bn_ | apply bd_ | refine below_set ?_ GE385.out) | exact HB.out)⟩)
end Go.Proofs.Ytlbckkagjekhnaa.A

/- The statement's search: l28Search, walked (with and without a look at exits). -/
namespace Go.Proofs.Ytlbckkagjekhnaa.A
open Go.RowKit Go.Proofs.YtlbckkagjekhnaaW.PrintWords Go.Proofs.YtlbckkagjekhnaaW.PrintLast Go.Proofs.YtlbckkagjekhnaaW.PrintMore
set_option linter.unusedVariables false
set_option linter.unusedSimpArgs false
def exB (parts : List (List Cb)) (b : Bool) (o : List Cb) : Bool := b && decide (0 < (freeP parts o).length)
theorem Sp.srNew {w0 w : World} {sr way pos ga : Res} {rest : List Res} {Ae Az : Option Addr} {ce n cz : Nat} {zs : List Cb}
    (h : Sp w0 (sr :: way :: Res.row kI 2 w0.heap.size (.slice Ae 0 ce) [] :: pos :: Res.row kC 69 w0.heap.size (.slice Az n cz) zs :: ga :: rest) w) : Sp w0 (ga :: sr :: pos :: Res.poolG kC 69 w0.heap.size [((Az, n, cz), zs)] :: way :: Res.poolG kI 2 w0.heap.size [((Ae, 0, ce), [])] :: rest) w := by
  have h1 := Sp.poolGNil kC 69 h
  have h2 : Sp w0 ([Res.row kC 69 w0.heap.size (.slice Az n cz) zs, Res.poolG kC 69 w0.heap.size [], sr, way, Res.row kI 2 w0.heap.size (.slice Ae 0 ce) [], pos, ga] ++ rest) w := Sp.arr (pre := [Res.poolG kC 69 w0.heap.size [], sr, way, Res.row kI 2 w0.heap.size (.slice Ae 0 ce) [], pos, Res.row kC 69 w0.heap.size (.slice Az n cz) zs, ga]) [5, 0, 1, 2, 3, 4, 6] h1 rfl rfl
  have h3 := Sp.poolGNil kI 2 (Sp.poolGAdd h2)
  have h4 : Sp w0 ([Res.row kI 2 w0.heap.size (.slice Ae 0 ce) [], Res.poolG kI 2 w0.heap.size [], Res.poolG kC 69 w0.heap.size [((Az, n, cz), zs)], sr, way, pos, ga] ++ rest) w := Sp.arr (pre := [Res.poolG kI 2 w0.heap.size [], Res.poolG kC 69 w0.heap.size [((Az, n, cz), zs)], sr, way, Res.row kI 2 w0.heap.size (.slice Ae 0 ce) [], pos, ga]) [4, 0, 1, 2, 3, 5, 6] h3 rfl rfl
  have h5 := Sp.poolGAdd h4
  exact Sp.arr (pre := [Res.poolG kI 2 w0.heap.size [((Ae, 0, ce), [])], Res.poolG kC 69 w0.heap.size [((Az, n, cz), zs)], sr, way, pos, ga]) (pre' := [ga, sr, pos, Res.poolG kC 69 w0.heap.size [((Az, n, cz), zs)], way, Res.poolG kI 2 w0.heap.size [((Ae, 0, ce), [])]]) [5, 2, 4, 1, 3, 0] h5 rfl rfl
def seaF.T5 : Bool × List (List Nat × List Nat) := (true, [([], []), ([0], [0]), ([1], [1]), ([1], [1]), ([3, 1], [1, 3]), ([4, 1], [1, 4]), ([5, 1], [1, 5]), ([1], [1]), ([6, 7, 1], [1, 6, 7]), ([8, 1], [1, 8]), ([2, 9, 1, 1], [1, 2, 9]), ([10, 1], [1, 10]), ([11, 1], [1, 11]), ([1, 12], [1, 12])])
def seaF.B5 : List Nat := [0, 1, 3, 3, 11, 27, 59, 3, 251, 507, 1023, 2047, 4095, 8191]
theorem seaF.tab5 : rtab .any (opsOf Try.f55 5) = seaF.T5 := by kernel_rfl
theorem seaF.bits5 : waitsOk seaF.T5.2 seaF.B5 = true := by kernel_rfl
set_option maxHeartbeats 8000000 in
set_option maxRecDepth 100000 in
theorem search_calls (w0 : World) (Ap : Option Addr) (cp : Nat) (parts : List (List Cb)) (hF : FrOk w0 Ap parts) (hcp : parts.length ≤ cp) (hn : 1 ≤ parts.length ∧ parts.length ≤ 4) (hSO : SpecOk parts.length) (hmv : ∀ o : List Cb, o.length = parts.length → ∃ K, spec_l27Moves.f K parts o = some (movesP parts o)) (b : Bool) (hfr : b = true → ∀ o : List Cb, o.length = parts.length → o.any (fun c => !inCb c (-3) 3) = false → ∃ K, spec_l27Free.f K parts o = some (freeP parts o)) (rest : List Res) (w : World) (hs : Sp w0 rest w) :
    Calls Try.prog 55 #[.agg #[.slice Ap parts.length cp], .bool b] w fun e w' => ∃ gs i, e = .returned (.tuple #[.pointer (some ⟨gs, 0, none⟩), .int .i64 i]) ∧ (∀ S j, searchW parts (exB parts b) 1201 [(zerosC parts.length, [])] 0 = some (S, j) → i = j) ∧ exPost w0 gs parts.length rest ((searchW parts (exB parts b) 1201 [(zerosC parts.length, [])] 0).map Prod.fst) w' := by
  have hu32 := Try.underlying32
  have hu83 := Try.underlying83
  have HF := A0_ hF
  have HCP := A0_ hcp
  have HN := A0_ hn
  have HSO := A0_ hSO
  have HMV := A0_ hmv
  have HFR := A0_ hfr
  have HS := A0_ hs
  clear hs hF hcp hn hSO hmv hfr
  obtain ⟨R, hR⟩ : ∃ R, R = searchW parts (exB parts b) 1201 [(zerosC parts.length, [])] 0 := ⟨_, rfl⟩
  rw [← hR]
  have HR := A0_ hR
  clear hR
  go_enter Try.func55, Try.ntmps55
  go_wp2_with (first
    | ((with_reducible refine gate_dst (N := 2) rfl ?_); go_loud (refine box_event ?hg (N := 2) ?hd (cs := #[.slice Ap parts.length cp]) (t := 32) ?hr ?_; (case hd => rfl); (case hg => rfl); (case hr => first | (go_simp; done) | (go_simp; rfl)); intro ga hgb_ wb_ hcb_ hbb_; have HS_ := A0_ (Sp.boxed HS.out hgb_ hcb_ hbb_); clear HS; have HS := HS_; clear HS_; clear hgb_ hcb_ hbb_; have ha0 := (blk_cell (Sp.blk HS.out (i := 0) rfl).1 0).trans rfl))
    | ((with_reducible refine gate_dst (N := 11) rfl ?_); go_loud (refine Kd.R_make kC _ 69 rfl (N := 11) rfl 34 _ _ rfl ((parts.length : Nat) : Int) rfl rfl Try.underlying34 ((.agg #[(.int .i64 0), (.int .i64 0), (.int .i64 0)])) 24 info69 rfl (by decide) (by decide) ((⟨0, 0, 0⟩ : Cb)) (ok := fun _ => True) (okp := fun _ => True) (k69_mkM _ _ _ (⟨0, 0, 0⟩ : Cb)) (fun _ hk => hk) trivial ?h0 ?hl (Below.refl _ _) (Nat.le_refl _) ?_; (case h0 => omega); (case hl => have := HN.out; omega); intro vm_ wm_ ho_ hb_ hg_ hn_; clear hg_ hn_; rw [Int.toNat_natCast] at ho_; obtain ⟨zs, hxs_⟩ : ∃ xs_, xs_ = List.replicate (parts.length) ((⟨0, 0, 0⟩ : Cb)) := ⟨_, rfl⟩; rw [← hxs_] at ho_; have Hzs := A0_ hxs_; clear hxs_; have HS_ := A0_ (Sp.made' HS.out hb_ ho_); clear HS; have HS := HS_; clear HS_; clear ho_ hb_; obtain ⟨Az, cz, ev_⟩ := Sp.slice HS.out (i := 0) rfl; subst ev_; clear ha0))
    | ((with_reducible refine gate_dst (N := 12) rfl ?_); go_loud (refine Kd.R_lit kSl _ 34 ?hg (N := 12) ?hd (xs := [((Az, zs.length, cz) : Sl)]) (inner := [.slice Az zs.length cz]) (ok := fun _ => True) (okp := fun _ => True) ?hr ?hp (fun _ hk => hk) trivial (Below.refl _ _) (Nat.le_refl _) (by simp) ?_; (case hd => rfl); (case hg => rfl); (case hr => first | (go_simp; done) | (go_simp; rfl)); (case hp => exact (Reps.one rfl (Reps.none _ _))); intro vl_ wl_ ho_ hb_ hg_ hn_; clear hg_ hn_; have HS_ := A0_ (Sp.made' HS.out hb_ ho_); clear HS; have HS := HS_; clear HS_; clear ho_ hb_; obtain ⟨Al, cl, ev_⟩ := Sp.slice HS.out (i := 0) rfl; subst ev_))
    | ((with_reducible refine gate_dst (N := 13) rfl ?_); go_loud (refine Kd.R_lit kI _ 2 ?hg (N := 13) ?hd (xs := ([] : List Int)) (inner := []) (ok := fun _ => True) (okp := fun _ => True) ?hr ?hp (fun _ hk => hk) trivial (Below.refl _ _) (Nat.le_refl _) (by simp) ?_; (case hd => rfl); (case hg => rfl); (case hr => first | (go_simp; done) | (go_simp; rfl)); (case hp => exact (Reps.none _ _)); intro vl_ wl_ ho_ hb_ hg_ hn_; clear hg_ hn_; have HS_ := A0_ (Sp.made' HS.out hb_ ho_); clear HS; have HS := HS_; clear HS_; clear ho_ hb_; obtain ⟨Ae, ce, ev_⟩ := Sp.slice HS.out (i := 0) rfl; subst ev_))
    | ((with_reducible refine gate_dst (N := 14) rfl ?_); go_loud (refine Kd.R_lit kSl _ 53 ?hg (N := 14) ?hd (xs := [((Ae, 0, ce) : Sl)]) (inner := [.slice Ae 0 ce]) (ok := fun _ => True) (okp := fun _ => True) ?hr ?hp (fun _ hk => hk) trivial (Below.refl _ _) (Nat.le_refl _) (by simp) ?_; (case hd => rfl); (case hg => rfl); (case hr => first | (go_simp; done) | (go_simp; rfl)); (case hp => exact (Reps.one rfl (Reps.none _ _))); intro vl_ wl_ ho_ hb_ hg_ hn_; clear hg_ hn_; have HS_ := A0_ (Sp.made' HS.out hb_ ho_); clear HS; have HS := HS_; clear HS_; clear ho_ hb_; obtain ⟨Aw, cw, ev_⟩ := Sp.slice HS.out (i := 0) rfl; subst ev_))
    | ((with_reducible refine gate_dst (N := 16) rfl ?_); go_loud (refine box_event ?hg (N := 16) ?hd (cs := #[.slice Al 1 cl, .slice Aw 1 cw, .bool false]) (t := 83) ?hr ?_; (case hd => rfl); (case hg => rfl); (case hr => first | (go_simp; done) | (go_simp; rfl)); intro gs hgb_ wb_ hcb_ hbb_; have HS_ := A0_ (Sp.boxed HS.out hgb_ hcb_ hbb_); clear HS; have HS := HS_; clear HS_; clear hgb_ hcb_ hbb_)))
  have HS_ := A0_ (Sp.srNew HS.out)
  clear HS
  have HS := HS_
  clear HS_
  have HZL := A0_ (show zs.length = parts.length by rw [Hzs.out]; exact List.length_replicate)
  go_loopg [7] 1202 (fun kq v7 w' => ∃ (k : Nat) (Ao : Option Addr) (co : Nat) (Aw : Option Addr) (cw : Nat) (full : Bool) (PS : List (Sl × List Cb)) (WS : List (Sl × List Int)), v7 = .int .i64 (k : Int) ∧ Aside0 (kq + k = 1202 ∧ k ≤ 1201 ∧ SrOk parts.length PS WS ∧ ((full = true ∧ R = none) ∨ (full = false ∧ k ≤ PS.length ∧ searchW parts (exB parts b) (1201 - k) (ndW PS WS) k = R))) ∧ Aside0 (Sp w0 ([Res.blk ga #[.slice Ap parts.length cp] 32, srBlk gs Ao PS.length co Aw WS.length cw full, posR w0.heap.size Ao co PS, Res.poolG kC 69 w0.heap.size PS, wayR w0.heap.size Aw cw WS, Res.poolG kI 2 w0.heap.size WS] ++ rest) w'))
  case atStart =>
    refine ⟨0, Al, cl, Aw, cw, false, [((Az, zs.length, cz), zs)], [((Ae, 0, ce), [])], rfl, ⟨by omega, by omega, ⟨rfl, by simp, fun p hp => ?_, fun j p hp => ?_, fun p hp => ?_⟩, .inr ⟨rfl, by simp, ?_⟩⟩, HS⟩
    · obtain rfl := List.mem_singleton.1 hp
      exact HZL.out
    · cases j with
      | zero => obtain rfl := Option.some.inj hp; exact Nat.le_refl _
      | succ j => simp at hp
    · obtain rfl := List.mem_singleton.1 hp
      rw [Hzs.out]
      rw [Bool.eq_false_iff]
      intro hc
      obtain ⟨c, hc1, hc2⟩ := List.any_eq_true.1 hc
      rw [List.eq_of_mem_replicate hc1] at hc2
      exact absurd hc2 (by decide)
    · rw [HR.out, Hzs.out]
      rfl
  case round =>
    clear HS
    obtain ⟨k, Ao, co, Aw, cw, full, PS, WS, rfl, HX, HS⟩ := hrel
    obtain ⟨k1, rfl⟩ : ∃ k1, gk = k1 + 1 := ⟨gk - 1, by have := HX.out; omega⟩
    have hs0 : wr.cell? ⟨gs, 0, none⟩ = some (.slice Ao PS.length co) := (blk_cell (Sp.blk HS.out (i := 1) rfl).1 0).trans rfl
    have hs2 : wr.cell? ⟨gs, 2, none⟩ = some (.bool full) := (blk_cell (Sp.blk HS.out (i := 1) rfl).1 2).trans rfl
    have HW := A0_ (wrap_succ k (by have := HX.out; omega))
    rcases HX.out.2.2.2 with ⟨hf, hrn⟩ | ⟨hf, hkp, hse⟩
    · subst hf
      have HRN := A0_ hrn
      clear hrn
      by_cases ck : k < PS.length
      · have ck0 : decide (k < PS.length) = true := decide_eq_true ck
        clear ck
        go_wp2
        go_ret2
        refine ⟨gs, -1, rfl, fun S j h => (by rw [HRN.out] at h; cases h), ?_⟩
        rw [HRN.out]
        exact ⟨Ao, co, Aw, cw, PS, WS, HX.out.2.2.1, Sp.out HS.out 0⟩
      · have ck0 : decide (k < PS.length) = false := decide_eq_false ck
        clear ck
        go_wp2
        go_ret2
        refine ⟨gs, -1, rfl, fun S j h => (by rw [HRN.out] at h; cases h), ?_⟩
        rw [HRN.out]
        exact ⟨Ao, co, Aw, cw, PS, WS, HX.out.2.2.1, Sp.out HS.out 0⟩
    · subst hf
      by_cases ck : k < PS.length
      · have ck0 : decide (k < PS.length) = true := decide_eq_true ck
        obtain ⟨p0, hp0⟩ : ∃ p0, PS[k]? = some p0 := ⟨PS[k], List.getElem?_eq_getElem ck⟩
        have hmem : p0 ∈ PS := List.mem_of_getElem? hp0
        have hok := HX.out.2.2.1
        obtain ⟨q0, hq0⟩ : ∃ q0, WS[k]? = some q0 := ⟨WS[k]'(by rw [← hok.len]; exact ck), List.getElem?_eq_getElem _⟩
        have hgd : (ndW PS WS).getD k default = (p0.2, q0.2) := by
          have hz : ((PS.map Prod.snd).zip (WS.map Prod.snd))[k]? = some (p0.2, q0.2) := List.getElem?_zip_eq_some.2 ⟨by rw [List.getElem?_map, hp0]; rfl, by rw [List.getElem?_map, hq0]; rfl⟩
          unfold ndW
          rw [List.getD_eq_getElem?_getD, hz]
          rfl
        rw [show 1201 - k = (1200 - k) + 1 by have := hok.top; omega] at hse
        unfold searchW at hse
        rw [if_pos (by rw [ndW_len hok.len]; exact ck), hgd] at hse
        dsimp only at hse
        have HEX := A0_ (fun A2 rs w2 (hs : Sp w0 (srRes w0.heap.size gs A2 co Aw cw false PS WS ++ rs) w2) => expand_calls w0 Ap cp gs parts HF.out HCP.out HN.out HSO.out A2 co Aw cw PS WS hok k p0 hp0 (HMV.out _ (hok.pos p0 hmem)) q0.2 ⟨q0, hq0, rfl⟩ rs w2 hs)
        have HCK := A0_ (show k < PS.length from ck)
        have HLE := A0_ (fun S' (h : (movesP parts p0.2).foldlM (visitW p0.2 q0.2) (ndW PS WS) = some S') => spreadW_le _ h)
        have HFP := A0_ (fun hb => HFR.out hb p0.2 (hok.pos p0 hmem) (hok.near p0 hmem))
        have HMEM := A0_ hmem
        generalize (movesP parts p0.2).foldlM (visitW p0.2 q0.2) (ndW PS WS) = E at HEX hse HLE
        cases b with
        | false =>
          rw [show exB parts false p0.2 = false from rfl, if_neg (by simp)] at hse
          have HSE := A0_ hse
          clear hse hgd hmem hp0 hq0 hok ck hkp HFP
          go_wp2
          have HS_ := A0_ (show Sp w0 ([Res.blk ga #[.slice Ap parts.length cp] 32, srBlk gs Ao PS.length co Aw WS.length cw false, posR w0.heap.size Ao co PS, Res.poolG kC 69 w0.heap.size PS, wayR w0.heap.size Aw cw WS, Res.poolG kI 2 w0.heap.size WS] ++ rest) wr.drew from Sp.drew HS.out)
          clear HS hs0 hs2
          have HS := HS_
          clear HS_
          refine start_ (n := 14) (S := fun w' => True) (ds := []) #[false, false, false, false, false, false, false, false, false, false, false, false, false, false] (by kernel_rfl) rfl rfl (trivial) (fun hHeld => ?_)
          refine with_tabW seaF.tab5 seaF.bits5 (fun HT_ HW_ => ?_)
          generalize wr.drew = wD at HS ⊢
          refine on_ 0 (some 33) ?_
          refine on_ 1 (some 34) ?_
          refine of_ 2 (some 35) ?_
          refine of_ 3 (some 36) ?_
          refine of_ 4 (some 37) ?_
          refine of_ 5 (some 38) ?_
          refine of_ 6 (some 39) ?_
          refine of_ 7 (some 40) ?_
          refine of_ 8 (some 41) ?_
          refine of_ 9 (some 42) ?_
          refine of_ 10 (some 43) ?_
          refine of_ 11 (some 44) ?_
          refine of_ 12 (some 45) ?_
          refine on_ 13 (some 46) ?_
          refine dn_ ?_
          have ha0 := (blk_cell (Sp.blk HS.out (i := 0) rfl).1 0).trans rfl
          go_wp2_with (first
            | (go_at_call 79; have HS_ := A0_ (Sp.arr (pre := [Res.blk ga #[.slice Ap parts.length cp] 32, srBlk gs Ao PS.length co Aw WS.length cw false, posR w0.heap.size Ao co PS, Res.poolG kC 69 w0.heap.size PS, wayR w0.heap.size Aw cw WS, Res.poolG kI 2 w0.heap.size WS]) (pre' := [srBlk gs Ao PS.length co Aw WS.length cw false, posR w0.heap.size Ao co PS, Res.poolG kC 69 w0.heap.size PS, wayR w0.heap.size Aw cw WS, Res.poolG kI 2 w0.heap.size WS, Res.blk ga #[.slice Ap parts.length cp] 32]) (rest := rest) [1, 2, 3, 4, 5, 0] HS.out rfl rfl); clear HS; have HS := HS_; clear HS_; refine (HEX.out Ao ([Res.blk ga #[.slice Ap parts.length cp] 32] ++ rest) _ HS.out).mono ?_; rintro e we_ ⟨rfl, Ao2, co2, Aw2, cw2, PS2, WS2, hok2_, hm_⟩; have HM := A0_ hm_; have HOK2 := A0_ hok2_; clear HS hm_ hok2_ ha0))
          go_roundg k1
          case measure => omega
          case rel =>
            rw [HW.out]
            have hm := HM.out
            cases E with
            | none =>
              have hse : none = R := HSE.out
              exact ⟨k + 1, Ao2, co2, Aw2, cw2, true, PS2, WS2, rfl, ⟨by have := HX.out; omega, by have h1 := HCK.out; have h2 := HX.out.2.2.1.top; omega, HOK2.out, .inl ⟨rfl, hse.symm⟩⟩, ⟨Sp.arr (pre := [srBlk gs Ao2 PS2.length co2 Aw2 WS2.length cw2 true, posR w0.heap.size Ao2 co2 PS2, Res.poolG kC 69 w0.heap.size PS2, wayR w0.heap.size Aw2 cw2 WS2, Res.poolG kI 2 w0.heap.size WS2, Res.blk ga #[.slice Ap parts.length cp] 32]) (rest := rest) [5, 0, 1, 2, 3, 4] hm rfl rfl⟩⟩
            | some S' =>
              have hse : searchW parts (exB parts false) (1200 - k) S' (k + 1) = R := HSE.out
              obtain ⟨hm1, hm2⟩ := hm
              refine ⟨k + 1, Ao2, co2, Aw2, cw2, false, PS2, WS2, rfl, ⟨by have := HX.out; omega, by have h1 := HCK.out; have h2 := HX.out.2.2.1.top; omega, HOK2.out, .inr ⟨rfl, ?_, ?_⟩⟩, ⟨Sp.arr (pre := [srBlk gs Ao2 PS2.length co2 Aw2 WS2.length cw2 false, posR w0.heap.size Ao2 co2 PS2, Res.poolG kC 69 w0.heap.size PS2, wayR w0.heap.size Aw2 cw2 WS2, Res.poolG kI 2 w0.heap.size WS2, Res.blk ga #[.slice Ap parts.length cp] 32]) (rest := rest) [5, 0, 1, 2, 3, 4] hm2 rfl rfl⟩⟩
              · have h1 := HLE.out S' rfl
                rw [← hm1, ndW_len HX.out.2.2.1.len, ndW_len HOK2.out.len] at h1
                have h2 := HCK.out
                omega
              · rw [hm1, show 1201 - (k + 1) = 1200 - k by omega]
                exact hse
        | true =>
          obtain ⟨KF, hKF⟩ := HFP.out rfl
          obtain ⟨g1, g2, g3⟩ := Sp.poolGC HS.out (i := 3) rfl hmem
          obtain ⟨adp, e, hx⟩ := at_Sl (Sp.reads HS.out (i := 2) rfl).2.2 k (by rw [List.length_map]; exact ck)
          subst e
          obtain ⟨⟨A0, n0, c0⟩, o⟩ := p0
          dsimp only at g1 g2 hKF hse HEX HLE
          subst g1
          have HGD := A0_ (show slV ((PS.map Prod.fst).getD k (none, 0, 0)) = .slice A0 o.length c0 by rw [List.getD_eq_getElem?_getD, List.getElem?_map, hp0]; rfl)
          have HOC := A0_ g2
          obtain ⟨fs, hfs⟩ : ∃ fs, fs = freeP parts o := ⟨_, rfl⟩
          rw [← hfs] at hKF
          have HKF := A0_ hKF
          have hexb : exB parts true o = decide (0 < fs.length) := by rw [hfs]; rfl
          rw [hexb] at hse
          have q0_ : (0 ≤ (k : Int)) = True := eq_true (by omega)
          have q1_ : ((k : Int) < (PS.length : Int)) = True := eq_true (by omega)
          have HSE := A0_ hse
          clear hse hgd hmem hp0 hq0 hok ck hkp HFP g2 g3 hx hfs hKF hexb
          go_wp2
          have HS_ := A0_ (show Sp w0 ([Res.blk ga #[.slice Ap parts.length cp] 32, srBlk gs (some adp) PS.length co Aw WS.length cw false, posR w0.heap.size (some adp) co PS, Res.poolG kC 69 w0.heap.size PS, wayR w0.heap.size Aw cw WS, Res.poolG kI 2 w0.heap.size WS] ++ rest) wr.drew from Sp.drew HS.out)
          clear HS hs0 hs2
          have HS := HS_
          clear HS_
          refine start_ (n := 14) (S := fun w' => w'.cell? ⟨ga, 0, none⟩ = some (.slice Ap parts.length cp) ∧ w'.cell? ⟨gs, 0, none⟩ = some (.slice (some adp) PS.length co) ∧ w'.cell? (adp.add k) = some (.slice A0 o.length c0)) (ds := []) #[false, false, false, false, false, false, false, false, false, false, false, false, false, false] (by kernel_rfl) rfl rfl (⟨(blk_cell (Sp.blk HS.out (i := 0) rfl).1 0).trans rfl, (blk_cell (Sp.blk HS.out (i := 1) rfl).1 0).trans rfl, (HGD.out ▸ Sp.slCell HS.out (i := 2) rfl k HCK.out)⟩) (fun hHeld => ?_)
          refine with_tabW seaF.tab5 seaF.bits5 (fun HT_ HW_ => ?_)
          generalize wr.drew = wD at HS hHeld ⊢
          refine on_ 0 (some 33) ?_
          refine on_ 1 (some 34) ?_
          refine tk_ 2 (some 35) ?_
          refine on_ 3 (some 36) ?_
          refine on_ 4 (some 37) ?_
          refine on_ 5 (some 38) ?_
          refine tk_ 6 (some 39) ?_
          refine on_ 7 (some 40) ?_
          refine on_ 8 (some 41) ?_
          refine tk_ 9 (some 42) ?_
          refine o1_ 10 (some 43) (fun K hK => ?_)
          refine goes_ Try.func65 (by kernel_rfl) rfl #[.agg #[.slice Ap parts.length cp], .slice A0 o.length c0] (by rfl) rfl rfl (by (try simp only [List.map_toArray, List.map_cons, List.map_nil]); first | done | rfl | (simp only [List.length_drop, List.length_take]; rfl)) ?_
          refine (spec_l27Free.calls KF Ap cp parts A0 c0 o fs _ (Kd.C_below HF.out.C HS.out.below) HCP.out (Sp.poolGC HS.out (i := 3) rfl HMEM.out).2.2 HOC.out HKF.out).mono ?_
          rintro e wm_ ⟨vm_, rfl, ho_, hb_⟩
          refine ⟨_, rfl, ?_⟩
          have HS_ := A0_ (Sp.made' HS.out hb_ ho_)
          clear HS
          have HS := HS_
          clear HS_
          obtain ⟨Am, cm, rfl⟩ := Kd.R_slice ho_
          clear ho_ hb_
          refine hK.out _ _ (⟨(blk_cell (Sp.blk HS.out (i := 1) rfl).1 0).trans rfl, (blk_cell (Sp.blk HS.out (i := 2) rfl).1 0).trans rfl, (HGD.out ▸ Sp.slCell HS.out (i := 3) rfl k HCK.out)⟩) (fun hHeld => ?_)
          clear hK K
          refine nm_ (some 43) ?_
          refine on_ 11 (some 44) ?_
          refine on_ 12 (some 45) ?_
          refine on_ 13 (some 46) ?_
          refine dn_ ?_
          by_cases hz : 0 < fs.length
          · have z0 : decide (0 < fs.length) = true := decide_eq_true hz
            have z1 := eq_true hz
            have HRN := A0_ (show R = some (ndW PS WS, (k : Int)) by
              have h := HSE.out
              rw [if_pos z0] at h
              exact h.symm)
            clear hz HSE
            rw [z0]
            go_wp2
            go_ret2
            refine ⟨gs, k, rfl, fun S j h => (by rw [HRN.out] at h; injection h with h; injection h with _ h), ?_⟩
            rw [HRN.out]
            exact ⟨some adp, co, Aw, cw, PS, WS, HX.out.2.2.1, rfl, Sp.tail (Sp.tail HS.out)⟩
          · have z0 : decide (0 < fs.length) = false := decide_eq_false hz
            have z1 := eq_false hz
            have hse := HSE.out
            rw [if_neg (by rw [z0]; simp)] at hse
            clear HSE
            have HSE := A0_ hse
            have HS_ := A0_ (Sp.tail HS.out)
            clear HS hz hse
            have HS := HS_
            clear HS_
            rw [z0]
            have ha0 := (blk_cell (Sp.blk HS.out (i := 0) rfl).1 0).trans rfl
            go_wp2_with (first
              | (go_at_call 79; have HS_ := A0_ (Sp.arr (pre := [Res.blk ga #[.slice Ap parts.length cp] 32, srBlk gs (some adp) PS.length co Aw WS.length cw false, posR w0.heap.size (some adp) co PS, Res.poolG kC 69 w0.heap.size PS, wayR w0.heap.size Aw cw WS, Res.poolG kI 2 w0.heap.size WS]) (pre' := [srBlk gs (some adp) PS.length co Aw WS.length cw false, posR w0.heap.size (some adp) co PS, Res.poolG kC 69 w0.heap.size PS, wayR w0.heap.size Aw cw WS, Res.poolG kI 2 w0.heap.size WS, Res.blk ga #[.slice Ap parts.length cp] 32]) (rest := rest) [1, 2, 3, 4, 5, 0] HS.out rfl rfl); clear HS; have HS := HS_; clear HS_; refine (HEX.out (some adp) ([Res.blk ga #[.slice Ap parts.length cp] 32] ++ rest) _ HS.out).mono ?_; rintro e we_ ⟨rfl, Ao2, co2, Aw2, cw2, PS2, WS2, hok2_, hm_⟩; have HM := A0_ hm_; have HOK2 := A0_ hok2_; clear HS hm_ hok2_ ha0))
            go_roundg k1
            case measure => omega
            case rel =>
              rw [HW.out]
              have hm := HM.out
              cases E with
              | none =>
                have hse : none = R := HSE.out
                exact ⟨k + 1, Ao2, co2, Aw2, cw2, true, PS2, WS2, rfl, ⟨by have := HX.out; omega, by have h1 := HCK.out; have h2 := HX.out.2.2.1.top; omega, HOK2.out, .inl ⟨rfl, hse.symm⟩⟩, ⟨Sp.arr (pre := [srBlk gs Ao2 PS2.length co2 Aw2 WS2.length cw2 true, posR w0.heap.size Ao2 co2 PS2, Res.poolG kC 69 w0.heap.size PS2, wayR w0.heap.size Aw2 cw2 WS2, Res.poolG kI 2 w0.heap.size WS2, Res.blk ga #[.slice Ap parts.length cp] 32]) (rest := rest) [5, 0, 1, 2, 3, 4] hm rfl rfl⟩⟩
              | some S' =>
                have hse : searchW parts (exB parts true) (1200 - k) S' (k + 1) = R := HSE.out
                obtain ⟨hm1, hm2⟩ := hm
                refine ⟨k + 1, Ao2, co2, Aw2, cw2, false, PS2, WS2, rfl, ⟨by have := HX.out; omega, by have h1 := HCK.out; have h2 := HX.out.2.2.1.top; omega, HOK2.out, .inr ⟨rfl, ?_, ?_⟩⟩, ⟨Sp.arr (pre := [srBlk gs Ao2 PS2.length co2 Aw2 WS2.length cw2 false, posR w0.heap.size Ao2 co2 PS2, Res.poolG kC 69 w0.heap.size PS2, wayR w0.heap.size Aw2 cw2 WS2, Res.poolG kI 2 w0.heap.size WS2, Res.blk ga #[.slice Ap parts.length cp] 32]) (rest := rest) [5, 0, 1, 2, 3, 4] hm2 rfl rfl⟩⟩
                · have h1 := HLE.out S' rfl
                  rw [← hm1, ndW_len HX.out.2.2.1.len, ndW_len HOK2.out.len] at h1
                  have h2 := HCK.out
                  omega
                · rw [hm1, show 1201 - (k + 1) = 1200 - k by omega]
                  exact hse
      · have ck0 : decide (k < PS.length) = false := decide_eq_false ck
        have HRN := A0_ (show R = some (ndW PS WS, -1) by
          cases hfu : 1201 - k with
          | zero => rw [hfu] at hse; exact hse.symm
          | succ f =>
            rw [hfu] at hse
            unfold searchW at hse
            rw [if_neg (by rw [ndW_len HX.out.2.2.1.len]; exact ck)] at hse
            exact hse.symm)
        clear ck hse hkp
        go_wp2
        go_ret2
        refine ⟨gs, -1, rfl, fun S j h => (by rw [HRN.out] at h; injection h with h; injection h with _ h), ?_⟩
        rw [HRN.out]
        exact ⟨Ao, co, Aw, cw, PS, WS, HX.out.2.2.1, rfl, Sp.out HS.out 0⟩
end Go.Proofs.Ytlbckkagjekhnaa.A

/- spec.StatesOf, walked. -/
namespace Go.Proofs.Ytlbckkagjekhnaa.A
open Go.RowKit Go.Proofs.YtlbckkagjekhnaaW.PrintWords Go.Proofs.YtlbckkagjekhnaaW.PrintLast Go.Proofs.YtlbckkagjekhnaaW.PrintMore
set_option linter.unusedVariables false
set_option linter.unusedSimpArgs false
def statesS (b : Bool) (parts : List (List Cb)) : Int × Int :=
  if b = true then (match searchW parts (exB parts false) 1201 [(zerosC parts.length, [])] 0 with | none => (0, 3) | some r => ((r.1.length : Int), 0)) else (0, 1)
set_option maxHeartbeats 4000000 in
set_option maxRecDepth 100000 in
theorem specStates_calls (Ap : Option Addr) (cp : Nat) (parts : List (List Cb)) (w : World) (b : Bool) (hia : ∀ w', Below w.heap.size w w' → Calls Try.prog 54 #[.agg #[.slice Ap parts.length cp]] w' fun e w'' => e = .returned (.bool b) ∧ Below w'.heap.size w' w'')
    (hcp : parts.length ≤ cp) (hb : b = true → FrOk w Ap parts ∧ (1 ≤ parts.length ∧ parts.length ≤ 4) ∧ SpecOk parts.length ∧ ∀ o : List Cb, o.length = parts.length → ∃ K, spec_l27Moves.f K parts o = some (movesP parts o)) :
    Calls Try.prog 23 #[.agg #[.slice Ap parts.length cp]] w fun e w' => e = .returned (.tuple #[.int .i64 (statesS b parts).1, .int .i64 (statesS b parts).2]) ∧ Below w.heap.size w w' := by
  have hu32 := Try.underlying32
  have HS := A0_ (Sp.start w)
  have HIA := A0_ hia
  have HCP := A0_ hcp
  clear hia hcp
  cases b with
  | false =>
    have HST := A0_ (show statesS false parts = (0, 1) by unfold statesS; rw [if_neg (by simp)])
    clear hb
    rw [HST.out]
    go_enter Try.func23, Try.ntmps23
    go_wp2_with (first
      | ((with_reducible refine gate_dst (N := 1) rfl ?_); refine box_event ?hg (N := 1) ?hd (cs := #[.slice Ap parts.length cp]) (t := 32) ?hr ?_; (case hd => rfl); (case hg => rfl); (case hr => first | (go_simp; done) | (go_simp; rfl)); intro ga hgb_ wb_ hcb_ hbb_; have HS_ := A0_ (Sp.boxed HS.out hgb_ hcb_ hbb_); clear HS; have HS := HS_; clear HS_; clear hgb_ hcb_ hbb_; have ha0 := (blk_cell (Sp.blk HS.out (i := 0) rfl).1 0).trans rfl)
      | (go_at_call 54; refine (HIA.out _ HS.out.below).mono ?_; rintro e wi_ ⟨rfl, hb_⟩; have HS_ := A0_ (Sp.far HS.out hb_); clear HS; have HS := HS_; clear HS_; clear hb_ ha0))
    go_ret2
    exact ⟨rfl, HS.out.below⟩
  | true =>
    obtain ⟨hF, hn, hSO, hmv⟩ := hb rfl
    have HST := A0_ (show statesS true parts = (match searchW parts (exB parts false) 1201 [(zerosC parts.length, [])] 0 with | none => (0, 3) | some r => ((r.1.length : Int), 0)) by unfold statesS; rw [if_pos rfl])
    have HSE := A0_ (fun rs w2 (hs : Sp w rs w2) => search_calls w Ap cp parts hF HCP.out hn hSO hmv false (fun h => by cases h) rs w2 hs)
    clear hb hF hn hSO hmv
    obtain ⟨RV, hRV⟩ : ∃ RV, RV = statesS true parts := ⟨_, rfl⟩
    have HRV := A0_ (hRV.trans HST.out)
    rw [← hRV]
    clear hRV HST
    generalize searchW parts (exB parts false) 1201 [(zerosC parts.length, [])] 0 = R at HSE HRV
    cases R with
    | none =>
      have HRW := A0_ (show RV = (0, 3) from HRV.out)
      clear HRV
      go_enter Try.func23, Try.ntmps23
      go_wp2_with (first
        | ((with_reducible refine gate_dst (N := 1) rfl ?_); refine box_event ?hg (N := 1) ?hd (cs := #[.slice Ap parts.length cp]) (t := 32) ?hr ?_; (case hd => rfl); (case hg => rfl); (case hr => first | (go_simp; done) | (go_simp; rfl)); intro ga hgb_ wb_ hcb_ hbb_; have HS_ := A0_ (Sp.boxed HS.out hgb_ hcb_ hbb_); clear HS; have HS := HS_; clear HS_; clear hgb_ hcb_ hbb_; have ha0 := (blk_cell (Sp.blk HS.out (i := 0) rfl).1 0).trans rfl)
        | (go_at_call 54; refine (HIA.out _ HS.out.below).mono ?_; rintro e wi_ ⟨rfl, hb_⟩; have HS_ := A0_ (Sp.far HS.out hb_); clear HS; have HS := HS_; clear HS_; clear hb_ ha0; have ha0 := (blk_cell (Sp.blk HS.out (i := 0) rfl).1 0).trans rfl)
        | (go_at_call 55; refine (HSE.out _ _ HS.out).mono ?_; rintro e ws_ ⟨gs, i_, rfl, _, Ao, co, Aw, cw, PS, WS, hok_, hs_⟩; have HS_ := A0_ (hs_); clear HS; have HS := HS_; clear HS_; clear hs_ hok_ ha0; have hs0 := (blk_cell (Sp.blk HS.out (i := 0) rfl).1 0).trans rfl; have hs2 := (blk_cell (Sp.blk HS.out (i := 0) rfl).1 2).trans rfl))
      go_ret2
      exact ⟨by rw [HRW.out]; rfl, HS.out.below⟩
    | some r =>
      have HRW := A0_ (show RV = ((r.1.length : Int), 0) from HRV.out)
      clear HRV
      go_enter Try.func23, Try.ntmps23
      go_wp2_with (first
        | ((with_reducible refine gate_dst (N := 1) rfl ?_); refine box_event ?hg (N := 1) ?hd (cs := #[.slice Ap parts.length cp]) (t := 32) ?hr ?_; (case hd => rfl); (case hg => rfl); (case hr => first | (go_simp; done) | (go_simp; rfl)); intro ga hgb_ wb_ hcb_ hbb_; have HS_ := A0_ (Sp.boxed HS.out hgb_ hcb_ hbb_); clear HS; have HS := HS_; clear HS_; clear hgb_ hcb_ hbb_; have ha0 := (blk_cell (Sp.blk HS.out (i := 0) rfl).1 0).trans rfl)
        | (go_at_call 54; refine (HIA.out _ HS.out.below).mono ?_; rintro e wi_ ⟨rfl, hb_⟩; have HS_ := A0_ (Sp.far HS.out hb_); clear HS; have HS := HS_; clear HS_; clear hb_ ha0; have ha0 := (blk_cell (Sp.blk HS.out (i := 0) rfl).1 0).trans rfl)
        | (go_at_call 55; refine (HSE.out _ _ HS.out).mono ?_; rintro e ws_ ⟨gs, i_, rfl, _, Ao, co, Aw, cw, PS, WS, hok_, hm_, hs_⟩; have HM := A0_ hm_; have HOK := A0_ hok_; have HS_ := A0_ (hs_); clear HS; have HS := HS_; clear HS_; clear hs_ hok_ hm_ ha0; have hs0 := (blk_cell (Sp.blk HS.out (i := 0) rfl).1 0).trans rfl; have hs2 := (blk_cell (Sp.blk HS.out (i := 0) rfl).1 2).trans rfl))
      go_ret2
      exact ⟨by rw [HRW.out, show r.1 = ndW PS WS from HM.out.symm, ndW_len HOK.out.len]; rfl, HS.out.below⟩
end Go.Proofs.Ytlbckkagjekhnaa.A

namespace Go.Proofs.Ytlbckkagjekhnaa.A
open Go.RowKit Go.Proofs.YtlbckkagjekhnaaW.PrintWords Go.Proofs.YtlbckkagjekhnaaW.PrintLast Go.Proofs.YtlbckkagjekhnaaW.PrintMore
attribute [local go_sem] max2_int min2_int max_two min_two max_three min_three max_four min_four   -- for this text's walks alone
set_option linter.unusedVariables false
set_option linter.unusedSimpArgs false
def spec_l02Cell.f (a0_0 : Int) (a0_1 : Int) : Option (Bool) := (spec_l01In.f a0_0 (-100) 100).bind fun t106 => (if t106 = true then ((spec_l01In.f a0_1 (-100) 100).bind fun t107 => (some t107)) else (some false))
set_option maxHeartbeats 8000000 in
set_option maxRecDepth 100000 in
theorem spec_l02Cell.calls (a0_0 : Int) (a0_1 : Int) (r : Bool) (w : World) (h : spec_l02Cell.f a0_0 a0_1 = some r) :
    Calls Try.prog 118 #[.agg #[.int .i64 a0_0, .int .i64 a0_1]] w fun e w' => e = .returned (.bool r) ∧ Below w.heap.size w w' := by
 (have hu148 := Try.underlying148); (have HB := A0_ (Below.refl w.heap.size w))
 have H : ((spec_l01In.f a0_0 (-100) 100).bind fun t106 => (if t106 = true then ((spec_l01In.f a0_1 (-100) 100).bind fun t107 => (some t107)) else (some false))) = some r := h
 clear h; (replace H := Option.bind_eq_some_iff.mp H); (obtain ⟨t106, A20, H⟩ := H); (try dsimp only at H); (have A2 := A0_ A20); clear A20; (have H0_ := A0_ H); clear H; (go_enter Try.func118, Try.ntmps118); (go_wp2_with (first | ((with_reducible refine gate_dst (N := 1) rfl ?_); refine box_event ?hg (N := 1) ?hd (cs := #[.int .i64 a0_0, .int .i64 a0_1]) (t := 148) ?hr ?_; (case hd => rfl); (case hg => rfl); (case hr => first | (go_simp; done) | (go_simp; rfl)); intro gb105 hg w3 hbox hb; have n0_ := A0_ (below_step (by repeat (first | (with_reducible first | exact HB.out | apply ba_ | apply bn_ | apply bd_) | exact HB.out)) hb); have n1_ := A0_ (hbox); have n2_ := A0_ ((by rw [hg]; exact (below_size (by repeat (first | (with_reducible first | exact HB.out | apply ba_ | apply bn_ | apply bd_) | exact HB.out))) : w.heap.size ≤ gb105)); have n3_ := A0_ ((by rw [hg]; exact (below_size (by repeat (first | (with_reducible first | exact HB.out | apply ba_ | apply bn_ | apply bd_) | exact HB.out))) : w.heap.size ≤ gb105)); clear HB; have HB := n0_; have BK105 := n1_; have GW105 := n2_; have GE105 := n3_; clear n0_ n1_ n2_ n3_; clear hb hbox hg; have hcz4_0 : w3.cell? ⟨gb105, 0, none⟩ = some (.int .i64 a0_0) := (blk_cell BK105.out 0).trans rfl; have hcz4_1 : w3.cell? ⟨gb105, 1, none⟩ = some (.int .i64 a0_1) := (blk_cell BK105.out 1).trans rfl; have hfz4_0 := blk_frozen BK105.out 0; have hfz4_1 := blk_frozen BK105.out 1) | ((with_reducible refine gate_callee (f := 45) rfl ?_); refine goesL_ (some 5) rfl rfl Try.func45 (by kernel_rfl) rfl #[.int .i64 a0_0, .int .i64 (-100), .int .i64 100] rfl (by (try simp only [List.map_toArray, List.map_cons, List.map_nil]); first | done | rfl | (simp only [List.length_drop, List.length_take]; rfl)) ?_; (with_reducible refine (spec_l01In.calls a0_0 (-100) 100 t106 _ A2.out).mono ?_); rintro e w' ⟨rfl, ⟨nd, rfl⟩⟩; refine ⟨_, rfl, ?_⟩; refine Stop0.out ?_))); (refine Stop0.mk ?_); (have H := H0_.out); clear H0_; (by_cases c5 : t106 = true)
 ·subst c5; (have H1 := H); (rw [if_pos rfl] at H1); clear H; (have H := H1); clear H1; (replace H := Option.bind_eq_some_iff.mp H); (obtain ⟨t107, A60, H⟩ := H); (try dsimp only at H); (have A6 := A0_ A60); clear A60; (have H0_ := A0_ H); clear H; (have hcz7_0 : w3.cell? ⟨gb105, 0, none⟩ = some (.int .i64 a0_0) := (blk_cell BK105.out 0).trans rfl); (have hcz7_1 : w3.cell? ⟨gb105, 1, none⟩ = some (.int .i64 a0_1) := (blk_cell BK105.out 1).trans rfl); (have hfz7_0 := blk_frozen BK105.out 0); (have hfz7_1 := blk_frozen BK105.out 1); (go_wp2_with (first | (go_at_call 45; (with_reducible refine (spec_l01In.calls a0_1 (-100) 100 t107 _ A6.out).mono ?_); rintro e w' ⟨rfl, ⟨nd, rfl⟩⟩; refine Stop0.out ?_))); (refine Stop0.mk ?_); (have H := H0_.out); clear H0_; (obtain rfl := Option.some.inj H); go_wp2; go_ret; (exact ⟨by first | rfl | (simp [errW_none, errW_some] <;> rfl) | (simp [*, errW_none, errW_some] <;> rfl), by repeat (first | (with_reducible first | exact HB.out | apply ba_ | apply bn_ | apply bd_ | refine below_set ?_ GE105.out) | exact HB.out)⟩)
 ·(replace c5 := Bool.eq_false_iff.mpr c5); subst c5; (have H1 : (some false) = some r := by rw [if_neg (show ¬ (false = true) by decide)] at H; exact H); clear H; (have H := H1); clear H1; (obtain rfl := Option.some.inj H); go_wp2; go_ret; (exact ⟨by first | rfl | (simp [errW_none, errW_some] <;> rfl) | (simp [*, errW_none, errW_some] <;> rfl), by repeat (first | (with_reducible first | exact HB.out | apply ba_ | apply bn_ | apply bd_ | refine below_set ?_ GE105.out) | exact HB.out)⟩)
end Go.Proofs.Ytlbckkagjekhnaa.A

namespace Go.Proofs.Ytlbckkagjekhnaa.A
open Go.RowKit Go.Proofs.YtlbckkagjekhnaaW.PrintWords Go.Proofs.YtlbckkagjekhnaaW.PrintLast Go.Proofs.YtlbckkagjekhnaaW.PrintMore
attribute [local go_sem] max2_int min2_int max_two min_two max_three min_three max_four min_four   -- for this text's walks alone
set_option linter.unusedVariables false
set_option linter.unusedSimpArgs false
def spec_l09Cube.f (a0_0 : Int) (a0_1 : Int) (a0_2 : Int) : Option (Bool) := (spec_l02Cell.f a0_0 a0_1).bind fun t109 => (if t109 = true then ((spec_l01In.f a0_2 (-100) 100).bind fun t110 => (some t110)) else (some false))
set_option maxHeartbeats 8000000 in
set_option maxRecDepth 100000 in
theorem spec_l09Cube.calls (a0_0 : Int) (a0_1 : Int) (a0_2 : Int) (r : Bool) (w : World) (h : spec_l09Cube.f a0_0 a0_1 a0_2 = some r) :
    Calls Try.prog 99 #[.agg #[.int .i64 a0_0, .int .i64 a0_1, .int .i64 a0_2]] w fun e w' => e = .returned (.bool r) ∧ Below w.heap.size w w' := by
 (have hu69 := Try.underlying69); (have hu148 := Try.underlying148); (have HB := A0_ (Below.refl w.heap.size w))
 have H : ((spec_l02Cell.f a0_0 a0_1).bind fun t109 => (if t109 = true then ((spec_l01In.f a0_2 (-100) 100).bind fun t110 => (some t110)) else (some false))) = some r := h
 clear h; (replace H := Option.bind_eq_some_iff.mp H); (obtain ⟨t109, A20, H⟩ := H); (try dsimp only at H); (have A2 := A0_ A20); clear A20; (have H0_ := A0_ H); clear H; (go_enter Try.func99, Try.ntmps99); (go_wp2_with (first | ((with_reducible refine gate_dst (N := 1) rfl ?_); refine box_event ?hg (N := 1) ?hd (cs := #[.int .i64 a0_0, .int .i64 a0_1, .int .i64 a0_2]) (t := 69) ?hr ?_; (case hd => rfl); (case hg => rfl); (case hr => first | (go_simp; done) | (go_simp; rfl)); intro gb108 hg w3 hbox hb; have n0_ := A0_ (below_step (by repeat (first | (with_reducible first | exact HB.out | apply ba_ | apply bn_ | apply bd_) | exact HB.out)) hb); have n1_ := A0_ (hbox); have n2_ := A0_ ((by rw [hg]; exact (below_size (by repeat (first | (with_reducible first | exact HB.out | apply ba_ | apply bn_ | apply bd_) | exact HB.out))) : w.heap.size ≤ gb108)); have n3_ := A0_ ((by rw [hg]; exact (below_size (by repeat (first | (with_reducible first | exact HB.out | apply ba_ | apply bn_ | apply bd_) | exact HB.out))) : w.heap.size ≤ gb108)); clear HB; have HB := n0_; have BK108 := n1_; have GW108 := n2_; have GE108 := n3_; clear n0_ n1_ n2_ n3_; clear hb hbox hg; have hcz4_0 : w3.cell? ⟨gb108, 0, none⟩ = some (.int .i64 a0_0) := (blk_cell BK108.out 0).trans rfl; have hcz4_1 : w3.cell? ⟨gb108, 1, none⟩ = some (.int .i64 a0_1) := (blk_cell BK108.out 1).trans rfl; have hcz4_2 : w3.cell? ⟨gb108, 2, none⟩ = some (.int .i64 a0_2) := (blk_cell BK108.out 2).trans rfl; have hfz4_0 := blk_frozen BK108.out 0; have hfz4_1 := blk_frozen BK108.out 1; have hfz4_2 := blk_frozen BK108.out 2) | ((with_reducible refine gate_callee (f := 118) rfl ?_); refine goesL_ (some 8) rfl rfl Try.func118 (by kernel_rfl) rfl #[.agg #[.int .i64 a0_0, .int .i64 a0_1]] rfl (by (try simp only [List.map_toArray, List.map_cons, List.map_nil]); first | done | rfl | (simp only [List.length_drop, List.length_take]; rfl)) ?_; (with_reducible refine (spec_l02Cell.calls a0_0 a0_1 t109 _ A2.out).mono ?_); rintro e w5 ⟨rfl, hb⟩; refine ⟨_, rfl, ?_⟩; have n0_ := A0_ (blk_below (g := gb108) (o := .cells #[.int .i64 a0_0, .int .i64 a0_1, .int .i64 a0_2] 69 (0, 0)) (by (with_reducible repeat (first | apply gn_ | apply gd_ | apply ga_)); exact BK108.out) hb); have n1_ := A0_ (below_step (by repeat (first | (with_reducible first | exact HB.out | apply ba_ | apply bn_ | apply bd_ | refine below_set ?_ GE108.out) | exact HB.out)) hb); clear BK108; clear HB; have BK108 := n0_; have HB := n1_; clear n0_ n1_; (try clear hb); (try clear hb2); (try clear hk); (try clear hi); refine Stop0.out ?_))); (refine Stop0.mk ?_); (have H := H0_.out); clear H0_; (by_cases c6 : t109 = true)
 ·subst c6; (have H1 := H); (rw [if_pos rfl] at H1); clear H; (have H := H1); clear H1; (replace H := Option.bind_eq_some_iff.mp H); (obtain ⟨t110, A70, H⟩ := H); (try dsimp only at H); (have A7 := A0_ A70); clear A70; (have H0_ := A0_ H); clear H; (have hcz8_0 : w5.cell? ⟨gb108, 0, none⟩ = some (.int .i64 a0_0) := (blk_cell BK108.out 0).trans rfl); (have hcz8_1 : w5.cell? ⟨gb108, 1, none⟩ = some (.int .i64 a0_1) := (blk_cell BK108.out 1).trans rfl); (have hcz8_2 : w5.cell? ⟨gb108, 2, none⟩ = some (.int .i64 a0_2) := (blk_cell BK108.out 2).trans rfl); (have hfz8_0 := blk_frozen BK108.out 0); (have hfz8_1 := blk_frozen BK108.out 1); (have hfz8_2 := blk_frozen BK108.out 2); (go_wp2_with (first | (go_at_call 45; (with_reducible refine (spec_l01In.calls a0_2 (-100) 100 t110 _ A7.out).mono ?_); rintro e w' ⟨rfl, ⟨nd, rfl⟩⟩; refine Stop0.out ?_))); (refine Stop0.mk ?_); (have H := H0_.out); clear H0_; (obtain rfl := Option.some.inj H); go_wp2; go_ret; (exact ⟨by first | rfl | (simp [errW_none, errW_some] <;> rfl) | (simp [*, errW_none, errW_some] <;> rfl), by repeat (first | (with_reducible first | exact HB.out | apply ba_ | apply bn_ | apply bd_ | refine below_set ?_ GE108.out) | exact HB.out)⟩)
 ·(replace c6 := Bool.eq_false_iff.mpr c6); subst c6; (have H1 : (some false) = some r := by rw [if_neg (show ¬ (false = true) by decide)] at H; exact H); clear H; (have H := H1); clear H1; (obtain rfl := Option.some.inj H); go_wp2; go_ret; (exact ⟨by first | rfl | (simp [errW_none, errW_some] <;> rfl) | (simp [*, errW_none, errW_some] <;> rfl), by repeat (first | (with_reducible first | exact HB.out | apply ba_ | apply bn_ | apply bd_ | refine below_set ?_ GE108.out) | exact HB.out)⟩)
end Go.Proofs.Ytlbckkagjekhnaa.A

/- Small functions of the statement on cubes: what they answer. No program in sight. -/
namespace Go.Proofs.Ytlbckkagjekhnaa.A
open Go.RowKit Go.Proofs.YtlbckkagjekhnaaW.PrintWords Go.Proofs.YtlbckkagjekhnaaW.PrintLast Go.Proofs.YtlbckkagjekhnaaW.PrintMore
set_option linter.unusedVariables false
set_option linter.unusedSimpArgs false
theorem in_eq (a lo hi : Int) : spec_l01In.f a lo hi = some (inR a lo hi) := by
  unfold spec_l01In.f inR
  by_cases h : a ≥ lo
  · rw [if_pos h, decide_eq_true (show lo ≤ a from h), Bool.true_and]
  · rw [if_neg h, decide_eq_false (show ¬ lo ≤ a from h), Bool.false_and]
theorem less_eq (a b : Cb) : spec_l09Less.f a.f0 a.f1 a.f2 b.f0 b.f1 b.f2 = some (lessC a b) := by
  unfold spec_l09Less.f lessC
  by_cases c2 : a.f2 < b.f2
  · rw [if_pos c2, if_neg (by omega), decide_eq_true c2]
  · rw [if_neg c2]
    by_cases e2 : a.f2 = b.f2
    · rw [if_pos e2, if_pos e2]
      by_cases c1 : a.f1 < b.f1
      · rw [if_pos c1, if_neg (by omega), decide_eq_true c1]
      · rw [if_neg c1]
        by_cases e1 : a.f1 = b.f1
        · rw [if_pos e1, if_pos e1]
        · rw [if_neg e1, if_neg e1, decide_eq_false c1]
    · rw [if_neg e2, if_neg e2, decide_eq_false c2]
theorem cube_eq (c : Cb) : spec_l09Cube.f c.f0 c.f1 c.f2 = some (inCb c (-100) 100) := by
  unfold spec_l09Cube.f spec_l02Cell.f inCb
  simp only [in_eq, Option.bind_some]
  cases inR c.f0 (-100) 100 <;> cases inR c.f1 (-100) 100 <;> simp
end Go.Proofs.Ytlbckkagjekhnaa.A

/- What the statement's small functions answer on positions. No program in sight. -/
namespace Go.Proofs.Ytlbckkagjekhnaa.A
open Go.RowKit Go.Proofs.YtlbckkagjekhnaaW.PrintWords Go.Proofs.YtlbckkagjekhnaaW.PrintLast Go.Proofs.YtlbckkagjekhnaaW.PrintMore
set_option linter.unusedVariables false
set_option linter.unusedSimpArgs false
theorem near_ev (l : List Cb) (h : l.length ≤ 1048576) : Ev (fun k => spec_l28Near.f k l) (!l.any (fun c => !inCb c (-3) 3)) := by
  obtain ⟨r, hr, hk⟩ : ∃ r, r = (!l.any (fun c => !inCb c (-3) 3)) ∧ Ev (fun k => spec_l28Near.f k l) r := by
    unfold spec_l28Near.f
    refine ev_inv0 l.length (fun (_ : Unit) j => (l.take j).any (fun c => !inCb c (-3) 3) = false) (fun r => r = (!l.any (fun c => !inCb c (-3) 3))) (fun _ i k => spec_l28Near.l0 k l i) (fun s hi => ?_) (fun s j hj hi => ?_) () rfl
    · refine ⟨true, ?_, Ev.step (f := fun _ => some true) (fun k => by simp only [spec_l28Near.l0]; rw [if_neg (by omega)]) (Ev.now _)⟩
      rw [List.take_length] at hi
      rw [hi]
      rfl
    · have hg : rd_T69 l (j : Int) = l[j] := by unfold rd_T69; exact getD_nat l _ j hj
      have hw := wrap_succ j (show j < 9223372036854775807 by omega)
      by_cases c : inCb l[j] (-3) 3 = true
      · refine .inr ⟨(), ?_, fun r h2 => Ev.succ ?_⟩
        · show (l.take (j + 1)).any _ = false
          rw [List.take_succ_eq_append_getElem hj, List.any_append, hi]
          simp [c]
        · have c' := c
          unfold inCb at c'
          rw [Bool.and_eq_true, Bool.and_eq_true] at c'
          simp only [spec_l28Near.l0, hg, in_eq, Option.bind_some, c'.1, c'.2.1, c'.2.2, if_true, show (j : Int) < (l.length : Int) from by omega, show (0 : Int) ≤ (j : Int) from by omega, hw]
          exact h2
      · have c1 : inCb l[j] (-3) 3 = false := by simpa using c
        refine .inl ⟨false, ?_, Ev.step (f := fun _ => some false) (fun k => ?_) (Ev.now _)⟩
        · have : l.any (fun c => !inCb c (-3) 3) = true := List.any_eq_true.2 ⟨_, List.getElem_mem hj, by rw [c1]; rfl⟩
          rw [this]
          rfl
        · unfold inCb at c1
          simp only [spec_l28Near.l0, hg, in_eq, Option.bind_some, show (j : Int) < (l.length : Int) from by omega, show (0 : Int) ≤ (j : Int) from by omega, if_true]
          cases e0 : inR l[j].f0 (-3) 3
          · rfl
          · cases e1 : inR l[j].f1 (-3) 3
            · rfl
            · cases e2 : inR l[j].f2 (-3) 3
              · rfl
              · rw [e0, e1, e2] at c1
                cases c1
  rw [← hr]
  exact hk
theorem u64_nn (k : Nat) (h : k ≤ 8) : 0 ≤ IntKind.u64.wrap (k : Int) := by
  obtain h | h | h | h | h | h | h | h | h : k = 0 ∨ k = 1 ∨ k = 2 ∨ k = 3 ∨ k = 4 ∨ k = 5 ∨ k = 6 ∨ k = 7 ∨ k = 8 := by omega
  all_goals subst h; decide
theorem vec_eq (q : Int) (h : 0 ≤ q ∧ q < 6) : spec_l27Vector.f q = some ((vecP q).f0, (vecP q).f1, (vecP q).f2) := by
  obtain h | h | h | h | h | h : q = 0 ∨ q = 1 ∨ q = 2 ∨ q = 3 ∨ q = 4 ∨ q = 5 := by omega
  all_goals subst h; rfl
theorem movedP_at (o : List Cb) (m : Int) (j : Nat) (hj : j < o.length) : (movedP o m)[j]'(by rw [movedP_len]; exact hj) = if (m.toNat / 6).testBit j = true then addC (oAt o j) (vecP (m % 6)) else oAt o j := by
  simp [movedP]
theorem after_ev (o : List Cb) (m : Int) (hl : o.length ≤ 8) (h6 : 6 ≤ m) (hm : m ≤ 9223372036854775807) : Ev (fun k => spec_l27After.f k o m) (movedP o m) := by
  obtain ⟨r, hr, hk⟩ : ∃ r, r = movedP o m ∧ Ev (fun k => spec_l27After.f k o m) r := by
    unfold spec_l27After.f
    refine ev_inv0 o.length (fun (s : List Cb) j => s = (movedP o m).take j) (fun r => r = movedP o m) (fun s i k => spec_l27After.l0 k o m s i) (fun s hi => ?_) (fun s j hj hi => ?_) [] rfl
    · refine ⟨s, ?_, Ev.step (f := fun _ => some s) (fun k => by simp only [spec_l27After.l0]; rw [if_neg (by omega)]) (Ev.now _)⟩
      rw [hi, List.take_of_length_le (by rw [movedP_len]; exact Nat.le_refl _)]
    · have hg : rd_T69 o (j : Int) = oAt o j := rfl
      have hw := wrap_succ j (show j < 9223372036854775807 by omega)
      have hsl : s.length < 5864062014805 := by
        rw [hi, List.length_take]
        omega
      have hnn := u64_nn j (by omega)
      have hq : m.tmod 6 = m % 6 := Int.tmod_eq_emod_of_nonneg (by omega)
      have hv := vec_eq (m % 6) (by omega)
      have hat := movedP_at o m j hj
      have hnext : (movedP o m).take (j + 1) = s ++ [if (m.toNat / 6).testBit j = true then addC (oAt o j) (vecP (m % 6)) else oAt o j] := by
        rw [List.take_succ_eq_append_getElem (by rw [movedP_len]; exact hj), hat, hi]
      refine .inr ⟨_, hnext.symm, fun r h2 => Ev.succ ?_⟩
      cases hb : (m.toNat / 6).testBit j with
      | false =>
        have hbit : bits .and .i64 (shr .i64 (wrap64 (Int.tdiv m 6)) (IntKind.u64.wrap (j : Int))) 1 = 0 := bit_of m j h6 hm (by omega) false hb
        rw [hb, if_neg (by simp)] at h2
        simp only [spec_l27After.l0, hg, hbit, hsl, if_true, if_false, show (j : Int) < (o.length : Int) from by omega, show (0 : Int) ≤ (j : Int) from by omega, hw, hnn, show ¬ ((0 : Int) = 1) from by omega]
        exact h2
      | true =>
        have hbit : bits .and .i64 (shr .i64 (wrap64 (Int.tdiv m 6)) (IntKind.u64.wrap (j : Int))) 1 = 1 := bit_of m j h6 hm (by omega) true hb
        rw [hb, if_pos rfl] at h2
        simp only [spec_l27After.l0, hg, hbit, hsl, hq, hv, spec_l09Add.f, Option.bind_some, if_true, if_false, show (j : Int) < (o.length : Int) from by omega, show (0 : Int) ≤ (j : Int) from by omega, hw, hnn]
        exact h2
  rw [← hr]
  exact hk
theorem less_none (a b : Cb) (h1 : lessC a b = false) (h2 : lessC b a = false) : a = b := by
  rcases a with ⟨a0, a1, a2⟩
  rcases b with ⟨b0, b1, b2⟩
  unfold lessC at h1 h2
  dsimp only at h1 h2
  by_cases e2 : a2 = b2
  · subst e2
    rw [if_pos rfl] at h1 h2
    by_cases e1 : a1 = b1
    · subst e1
      rw [if_pos rfl, decide_eq_false_iff_not] at h1 h2
      rw [show a0 = b0 by omega]
    · rw [if_neg e1, decide_eq_false_iff_not] at h1
      rw [if_neg (Ne.symm e1), decide_eq_false_iff_not] at h2
      omega
  · rw [if_neg e2, decide_eq_false_iff_not] at h1
    rw [if_neg (Ne.symm e2), decide_eq_false_iff_not] at h2
    omega
theorem less_irr (a : Cb) : lessC a a = false := by
  unfold lessC
  rw [if_pos rfl, if_pos rfl, decide_eq_false_iff_not]
  omega
theorem same_ev (p q : List Cb) (hl : p.length = q.length) (h : p.length ≤ 1048576) : Ev (fun k => spec_l28Same.f k p q) (decide (p = q)) := by
  obtain ⟨r, hr, hk⟩ : ∃ r : Int, (r == 0) = decide (p = q) ∧ Ev (fun k => spec_l09Compare.f k p q) r := by
    unfold spec_l09Compare.f
    simp only [show (p.length : Int) = (q.length : Int) from by omega, if_true]
    refine ev_inv0 p.length (fun (_ : Unit) j => ∀ i (h1 : i < p.length) (h2 : i < q.length), i < j → p[i] = q[i]) (fun r : Int => (r == 0) = decide (p = q)) (fun _ i k => spec_l09Compare.l0 k p q i) (fun s hi => ?_) (fun s j hj hi => ?_) () (fun i h1 h2 h3 => by omega)
    · refine ⟨0, ?_, Ev.step (f := fun _ => some 0) (fun k => by simp only [spec_l09Compare.l0]; rw [if_neg (by omega)]) (Ev.now _)⟩
      have : p = q := List.ext_getElem hl (fun i h1 h2 => hi i h1 h2 h1)
      rw [decide_eq_true this]
      rfl
    · have hg : rd_T69 p (j : Int) = p[j] := by unfold rd_T69; exact getD_nat p _ j hj
      have hg2 : rd_T69 q (j : Int) = q[j] := by unfold rd_T69; exact getD_nat q _ j (by omega)
      have hw := wrap_succ j (show j < 9223372036854775807 by omega)
      have hne : p[j] ≠ q[j] → decide (p = q) = false := fun hn => decide_eq_false (fun e => hn (by subst e; rfl))
      cases e1 : lessC p[j] q[j] with
      | true =>
        refine .inl ⟨-1, ?_, Ev.step (f := fun _ => some (-1)) (fun k => ?_) (Ev.now _)⟩
        · rw [hne (fun e => by rw [e, less_irr] at e1; cases e1)]
          rfl
        · simp only [spec_l09Compare.l0, hg, hg2, less_eq, e1, Option.bind_some, if_true, show (j : Int) < (p.length : Int) from by omega, show (j : Int) < (q.length : Int) from by omega, show (0 : Int) ≤ (j : Int) from by omega]
      | false =>
        cases e2 : lessC q[j] p[j] with
        | true =>
          refine .inl ⟨1, ?_, Ev.step (f := fun _ => some 1) (fun k => ?_) (Ev.now _)⟩
          · rw [hne (fun e => by rw [e, less_irr] at e2; cases e2)]
            rfl
          · simp only [spec_l09Compare.l0, hg, hg2, less_eq, e1, e2, Option.bind_some, if_true, Bool.false_eq_true, if_false, show (j : Int) < (p.length : Int) from by omega, show (j : Int) < (q.length : Int) from by omega, show (0 : Int) ≤ (j : Int) from by omega]
        | false =>
          have heq := less_none _ _ e1 e2
          refine .inr ⟨(), fun i h1 h2 h3 => ?_, fun r h2 => Ev.succ ?_⟩
          · by_cases c : i = j
            · subst c; exact heq
            · exact hi i h1 h2 (by omega)
          · simp only [spec_l09Compare.l0, hg, hg2, less_eq, e1, e2, Option.bind_some, if_true, Bool.false_eq_true, if_false, show (j : Int) < (p.length : Int) from by omega, show (j : Int) < (q.length : Int) from by omega, show (0 : Int) ≤ (j : Int) from by omega, hw]
            exact h2
  unfold spec_l28Same.f
  refine Ev.bind hk (Ev.val fun k => by rw [hr])
theorem spec_ok (n : Nat) (hn : n ≤ 4) : SpecOk n where
  near nx h := (near_ev nx (by omega)).rounds
  same p q h1 h2 := (same_ev p q (by omega) (by omega)).rounds
  after o m h hmv := (after_ev o m (by omega) (by
    unfold isMv at hmv
    rw [Bool.and_eq_true, decide_eq_true_eq] at hmv
    exact hmv.1) (isMv_le (by omega) hmv)).rounds
end Go.Proofs.Ytlbckkagjekhnaa.A

/- The program's search and the statement's come to the same positions, by the same ways. No program in sight. -/
namespace Go.Proofs.Ytlbckkagjekhnaa.A
open Go.RowKit Go.Proofs.YtlbckkagjekhnaaW.PrintWords Go.Proofs.YtlbckkagjekhnaaW.PrintLast Go.Proofs.YtlbckkagjekhnaaW.PrintMore
set_option linter.unusedVariables false
set_option linter.unusedSimpArgs false
abbrev ndAt (S : List Nd) (j : Nat) : Nd := S.getD j default
abbrev pwAt (T : List (List Cb × List Int)) (j : Nat) : List Cb × List Int := T.getD j default
def wayF (S : List Nd) : Nat → Nat → List Int
  | 0, _ => []
  | f + 1, j => if (ndAt S j).2.1 < 0 then [] else wayF S f (ndAt S j).2.1.toNat ++ [(ndAt S j).2.2]
/-- The moves that lead to the position at place j. -/
def wayN (S : List Nd) (j : Nat) : List Int := wayF S (j + 1) j
def WfN (S : List Nd) : Prop := ∀ j : Nat, j < S.length → (ndAt S j).2.1 < (j : Int)
theorem wayF_any {S : List Nd} (h : WfN S) : ∀ (f g j : Nat), j < S.length → j < f → j < g → wayF S f j = wayF S g j
  | 0, _, _, _, hf, _ => by omega
  | _ + 1, 0, _, _, _, hg => by omega
  | f + 1, g + 1, j, hj, hf, hg => by
    unfold wayF
    have hs := h j hj
    by_cases c : (ndAt S j).2.1 < 0
    · rw [if_pos c, if_pos c]
    · rw [if_neg c, if_neg c, wayF_any h f g (ndAt S j).2.1.toNat (by omega) (by omega) (by omega)]
theorem wayN_step {S : List Nd} (h : WfN S) {j : Nat} (hj : j < S.length) (h0 : ¬ (ndAt S j).2.1 < 0) : wayN S j = wayN S (ndAt S j).2.1.toNat ++ [(ndAt S j).2.2] := by
  have hs := h j hj
  conv => lhs; unfold wayN wayF
  rw [if_neg h0]
  congr 1
  exact wayF_any h _ _ _ (by omega) (by omega) (by omega)
theorem ndAt_app {S : List Nd} {x : Nd} {j : Nat} (hj : j < S.length) : ndAt (S ++ [x]) j = ndAt S j := by
  simp only [ndAt, List.getD_eq_getElem?_getD, List.getElem?_append_left hj]
theorem ndAt_new {S : List Nd} {x : Nd} : ndAt (S ++ [x]) S.length = x := by simp [ndAt, List.getD_eq_getElem?_getD]
theorem pwAt_app {T : List (List Cb × List Int)} {x : List Cb × List Int} {j : Nat} (hj : j < T.length) : pwAt (T ++ [x]) j = pwAt T j := by
  simp only [pwAt, List.getD_eq_getElem?_getD, List.getElem?_append_left hj]
theorem pwAt_new {T : List (List Cb × List Int)} {x : List Cb × List Int} : pwAt (T ++ [x]) T.length = x := by simp [pwAt, List.getD_eq_getElem?_getD]
theorem wayF_app {S : List Nd} (h : WfN S) (x : Nd) : ∀ (f j : Nat), j < S.length → wayF (S ++ [x]) f j = wayF S f j
  | 0, _, _ => rfl
  | f + 1, j, hj => by
    unfold wayF
    rw [ndAt_app hj]
    have hs := h j hj
    by_cases c : (ndAt S j).2.1 < 0
    · rw [if_pos c, if_pos c]
    · rw [if_neg c, if_neg c, wayF_app h x f _ (by omega)]
structure RelW (S : List Nd) (T : List (List Cb × List Int)) : Prop where
  wf : WfN S
  pos : S.map Prod.fst = T.map Prod.fst
  way : ∀ j : Nat, j < S.length → wayN S j = (pwAt T j).2
theorem RelW.len {S : List Nd} {T : List (List Cb × List Int)} (h : RelW S T) : S.length = T.length := by
  have := congrArg List.length h.pos
  simpa using this
theorem RelW.at {S : List Nd} {T : List (List Cb × List Int)} (h : RelW S T) (j : Nat) : (ndAt S j).1 = (pwAt T j).1 := by
  have h1 : (S.map Prod.fst).getD j (default : Nd).1 = (T.map Prod.fst).getD j (default : List Cb × List Int).1 := by rw [h.pos]; rfl
  simp only [List.getD_eq_getElem?_getD, List.getElem?_map] at h1
  simp only [ndAt, pwAt, List.getD_eq_getElem?_getD]
  cases hs : S[j]? <;> cases ht : T[j]? <;> rw [hs, ht] at h1 <;> exact h1
theorem RelW.add {S : List Nd} {T : List (List Cb × List Int)} (h : RelW S T) (k : Nat) (hk : k < S.length) (nx : List Cb) (m : Int) : RelW (S ++ [(nx, (k : Int), m)]) (T ++ [(nx, (pwAt T k).2 ++ [m])]) := by
  have hwf : WfN (S ++ [(nx, (k : Int), m)]) := fun j hj => by
    rw [List.length_append, List.length_singleton] at hj
    by_cases c : j < S.length
    · rw [ndAt_app c]; exact h.wf j c
    · have : j = S.length := by omega
      subst this
      rw [ndAt_new]
      show (k : Int) < _
      omega
  refine ⟨hwf, by rw [List.map_append, List.map_append, h.pos]; rfl, fun j hj => ?_⟩
  rw [List.length_append, List.length_singleton] at hj
  by_cases c : j < S.length
  · rw [pwAt_app (by rw [← h.len]; exact c), ← h.way j c]
    exact wayF_app h.wf _ _ j c
  · have : j = S.length := by omega
    subst this
    have hn : ndAt (S ++ [(nx, (k : Int), m)]) S.length = (nx, (k : Int), m) := ndAt_new
    rw [wayN_step hwf (by rw [List.length_append, List.length_singleton]; omega) (by rw [hn]; show ¬ (k : Int) < 0; omega), hn]
    dsimp only
    rw [Int.toNat_natCast, show wayN (S ++ [(nx, (k : Int), m)]) k = wayN S k from wayF_app h.wf _ _ k hk, h.way k hk, h.len, pwAt_new]
/-- Both have come to the limit, or to the same. -/
def RelO (k : Nat) (y : List Cb × List Int) : Option (List Nd) → Option (List (List Cb × List Int)) → Prop
  | none, none => True
  | some S, some T => RelW S T ∧ k < S.length ∧ pwAt T k = y
  | _, _ => False
theorem visit_rel {S : List Nd} {T : List (List Cb × List Int)} (h : RelW S T) (k : Nat) (hk : k < S.length) (o : List Cb) (m : Int) : RelO k (pwAt T k) (visitP o k S m) (visitW o (pwAt T k).2 T m) := by
  unfold visitP visitW
  rw [← h.pos, ← h.len]
  by_cases c1 : (movedP o m).any (fun c => !inCb c (-3) 3) = true
  · rw [if_pos c1, if_pos c1]; exact ⟨h, hk, rfl⟩
  · rw [if_neg c1, if_neg c1]
    by_cases c2 : (S.map Prod.fst).contains (movedP o m) = true
    · rw [if_pos c2, if_pos c2]; exact ⟨h, hk, rfl⟩
    · rw [if_neg c2, if_neg c2]
      by_cases c3 : S.length = 1200
      · rw [if_pos c3, if_pos c3]; trivial
      · rw [if_neg c3, if_neg c3]
        exact ⟨h.add k hk _ m, by rw [List.length_append]; omega, pwAt_app (by rw [← h.len]; exact hk)⟩
theorem fold_rel (o : List Cb) (k : Nat) (y : List Cb × List Int) : ∀ (ms : List Int) (S : List Nd) (T : List (List Cb × List Int)), RelW S T → k < S.length → pwAt T k = y → RelO k y (ms.foldlM (visitP o k) S) (ms.foldlM (visitW o y.2) T)
  | [], S, T, h, hk, hy => ⟨h, hk, hy⟩
  | m :: ms, S, T, h, hk, hy => by
    rw [List.foldlM_cons, List.foldlM_cons]
    have h1 := visit_rel h k hk o m
    rw [hy] at h1
    cases hs : visitP o k S m with
    | none =>
      cases ht : visitW o y.2 T m with
      | none => trivial
      | some T' => rw [hs, ht] at h1; exact h1.elim
    | some S' =>
      cases ht : visitW o y.2 T m with
      | none => rw [hs, ht] at h1; exact h1.elim
      | some T' => rw [hs, ht] at h1; exact fold_rel o k y ms S' T' h1.1 h1.2.1 h1.2.2
/-- The program's search with a look at exits. -/
def searchX (parts : List (List Cb)) (ex : List Cb → Bool) : Nat → List Nd → Nat → Option (List Nd × Int)
  | 0, S, _ => some (S, -1)
  | f + 1, S, k => if k < S.length then (if ex (ndAt S k).1 = true then some (S, (k : Int)) else (spreadP parts (ndAt S k).1 k S).bind (fun S' => searchX parts ex f S' (k + 1))) else some (S, -1)
def RelX : Option (List Nd × Int) → Option (List (List Cb × List Int) × Int) → Prop
  | none, none => True
  | some (S, i), some (T, j) => RelW S T ∧ i = j ∧ (i = -1 ∨ ∃ k : Nat, i = (k : Int) ∧ k < S.length)
  | _, _ => False
theorem search_rel (parts : List (List Cb)) (ex : List Cb → Bool) : ∀ (f : Nat) (S : List Nd) (T : List (List Cb × List Int)) (k : Nat), RelW S T → RelX (searchX parts ex f S k) (searchW parts ex f T k)
  | 0, S, T, k, h => ⟨h, rfl, .inl rfl⟩
  | f + 1, S, T, k, h => by
    unfold searchX searchW
    rw [← h.len]
    by_cases c : k < S.length
    · rw [if_pos c, if_pos c]
      rw [show (T.getD k default).1 = (ndAt S k).1 from (h.at k).symm]
      by_cases e : ex (ndAt S k).1 = true
      · rw [if_pos e, if_pos e]; exact ⟨h, rfl, .inr ⟨k, rfl, c⟩⟩
      · rw [if_neg e, if_neg e]
        have h1 := fold_rel (ndAt S k).1 k (pwAt T k) (movesP parts (ndAt S k).1) S T h c rfl
        unfold spreadP
        cases hs : (movesP parts (ndAt S k).1).foldlM (visitP (ndAt S k).1 k) S with
        | none =>
          cases ht : (movesP parts (ndAt S k).1).foldlM (visitW (ndAt S k).1 (pwAt T k).2) T with
          | none => trivial
          | some T' => rw [hs, ht] at h1; exact h1.elim
        | some S' =>
          cases ht : (movesP parts (ndAt S k).1).foldlM (visitW (ndAt S k).1 (pwAt T k).2) T with
          | none => rw [hs, ht] at h1; exact h1.elim
          | some T' =>
            rw [hs, ht] at h1
            exact search_rel parts ex f S' T' (k + 1) h1.1
    · rw [if_neg c, if_neg c]; exact ⟨h, rfl, .inl rfl⟩
theorem rel_start (n : Nat) : RelW [(zerosC n, -1, 0)] [(zerosC n, [])] := by
  refine ⟨fun j hj => ?_, rfl, fun j hj => ?_⟩
  · have : j = 0 := by simpa using hj
    subst this
    show (-1 : Int) < 0
    omega
  · have : j = 0 := by simpa using hj
    subst this
    rfl
theorem searchX_no (parts : List (List Cb)) : ∀ (f : Nat) (S : List Nd) (k : Nat), searchX parts (exB parts false) f S k = (searchN parts f S k).map (fun S' => (S', (-1 : Int)))
  | 0, S, k => rfl
  | f + 1, S, k => by
    unfold searchX searchN
    by_cases c : k < S.length
    · rw [if_pos c, if_pos c, if_neg (show ¬ exB parts false (ndAt S k).1 = true by simp [exB])]
      show (spreadP parts (ndAt S k).1 k S).bind _ = Option.map _ ((spreadP parts (ndAt S k).1 k S).bind _)
      cases spreadP parts (ndAt S k).1 k S with
      | none => rfl
      | some S' => exact searchX_no parts f S' (k + 1)
    · rw [if_neg c, if_neg c]; rfl
/-- Both answer the same pair. -/
theorem states_same (sol con : List Cb → Bool) (parts : List (List Cb)) : statesP sol con parts = statesS (isAsmP sol con parts) parts := by
  unfold statesP statesS
  by_cases c : isAsmP sol con parts = true
  · rw [if_pos c, if_pos c]
    have h := search_rel parts (exB parts false) 1201 _ _ 0 (rel_start parts.length)
    rw [searchX_no] at h
    unfold searchP
    cases hs : searchN parts 1201 [(zerosC parts.length, -1, 0)] 0 with
    | none =>
      rw [hs] at h
      cases ht : searchW parts (exB parts false) 1201 [(zerosC parts.length, [])] 0 with
      | none => rfl
      | some r => rw [ht] at h; exact h.elim
    | some S =>
      rw [hs] at h
      cases ht : searchW parts (exB parts false) 1201 [(zerosC parts.length, [])] 0 with
      | none => rw [ht] at h; exact h.elim
      | some r =>
        rw [ht] at h
        obtain ⟨T, j⟩ := r
        dsimp only
        rw [h.1.len]
  · rw [if_neg c, if_neg c]
end Go.Proofs.Ytlbckkagjekhnaa.A

/- Moving and meeting of cubes in the statement's small functions. No program in sight. -/
namespace Go.Proofs.Ytlbckkagjekhnaa.A
open Go.RowKit Go.Proofs.YtlbckkagjekhnaaW.PrintWords Go.Proofs.YtlbckkagjekhnaaW.PrintLast Go.Proofs.YtlbckkagjekhnaaW.PrintMore
set_option linter.unusedVariables false
set_option linter.unusedSimpArgs false
theorem sindex_ev (l : List Cb) (x : Cb) (h : l.length ≤ 1048576) : ∃ r : Int, decide (r ≥ 0) = l.contains x ∧ Ev (fun k => spec_l09Index.f k l x.f0 x.f1 x.f2) r := by
  unfold spec_l09Index.f
  refine ev_inv0 l.length (fun (_ : Unit) j => ∀ i (hi : i < j) (hl : i < l.length), l[i] ≠ x) (fun r : Int => decide (r ≥ 0) = l.contains x) (fun _ i k => spec_l09Index.l0 k l i x.f0 x.f1 x.f2) (fun s hi => ?_) (fun s j hj hi => ?_) () (fun i hi => by omega)
  · refine ⟨-1, ?_, Ev.step (f := fun _ => some (-1)) (fun k => by simp only [spec_l09Index.l0]; rw [if_neg (by omega)]) (Ev.now _)⟩
    have hn : ¬ l.contains x = true := fun hc => by
      rw [List.contains_iff_mem, List.mem_iff_getElem] at hc
      obtain ⟨i, hl, e⟩ := hc
      exact hi i hl hl e
    rw [Bool.eq_false_iff.mpr hn]
    rfl
  · have hg : rd_T69 l (j : Int) = l[j] := by unfold rd_T69; exact getD_nat l _ j hj
    have e3 : (l[j].f0 == x.f0 && (l[j].f1 == x.f1 && l[j].f2 == x.f2)) = decide (l[j] = x) := eq_cb l[j] x
    have hw := wrap_succ j (show j < 9223372036854775807 by omega)
    by_cases c : l[j] = x
    · refine .inl ⟨(j : Int), ?_, Ev.step (f := fun _ => some (j : Int)) (fun k => ?_) (Ev.now _)⟩
      · have : l.contains x = true := by rw [← c, List.contains_iff_mem]; exact List.getElem_mem hj
        rw [this]
        exact decide_eq_true (by omega)
      · simp only [spec_l09Index.l0, hg, e3, show (j : Int) < (l.length : Int) from by omega, show (0 : Int) ≤ (j : Int) from by omega, if_true, decide_eq_true_eq]
        rw [if_pos c]
    · refine .inr ⟨(), fun i hi2 hl => ?_, fun r h2 => Ev.succ ?_⟩
      · by_cases e : i = j
        · subst e; exact c
        · exact hi i (by omega) hl
      · simp only [spec_l09Index.l0, hg, e3, show (j : Int) < (l.length : Int) from by omega, show (0 : Int) ≤ (j : Int) from by omega, if_true, decide_eq_true_eq]
        simp only [c, if_false, hw]
        exact h2
theorem smove_ev (l : List Cb) (d : Cb) (h : l.length ≤ 1048576) : Ev (fun k => spec_l09Move.f k l d.f0 d.f1 d.f2) (l.map fun c => addC c d) := by
  obtain ⟨r, hr, hk⟩ : ∃ r, r = (l.map fun c => addC c d) ∧ Ev (fun k => spec_l09Move.f k l d.f0 d.f1 d.f2) r := by
    unfold spec_l09Move.f
    refine ev_inv0 l.length (fun (s : List Cb) j => s = (l.take j).map fun c => addC c d) (fun r => r = (l.map fun c => addC c d)) (fun s i k => spec_l09Move.l0 k l s i d.f0 d.f1 d.f2) (fun s hi => ?_) (fun s j hj hi => ?_) [] rfl
    · refine ⟨s, ?_, Ev.step (f := fun _ => some s) (fun k => by simp only [spec_l09Move.l0]; rw [if_neg (by omega)]) (Ev.now _)⟩
      rw [hi, List.take_length]
    · have hg : rd_T69 l (j : Int) = l[j] := by unfold rd_T69; exact getD_nat l _ j hj
      have hw := wrap_succ j (show j < 9223372036854775807 by omega)
      have hsl : s.length < 5864062014805 := by
        rw [hi, List.length_map, List.length_take]
        omega
      have hnext : ((l.take (j + 1)).map fun c => addC c d) = s ++ [addC l[j] d] := by
        rw [List.take_succ_eq_append_getElem hj, List.map_append, hi]
        rfl
      refine .inr ⟨_, hnext.symm, fun r h2 => Ev.succ ?_⟩
      simp only [spec_l09Move.l0, hg, hsl, spec_l09Add.f, Option.bind_some, if_true, show (j : Int) < (l.length : Int) from by omega, show (0 : Int) ≤ (j : Int) from by omega, hw]
      exact h2
  rw [← hr]
  exact hk
theorem smeet_ev (a b : List Cb) (ha : a.length ≤ 1048576) (hb : b.length ≤ 1048576) : Ev (fun k => spec_l27Meet.f k a b) (a.any fun c => b.contains c) := by
  obtain ⟨r, hr, hk⟩ : ∃ r, r = (a.any fun c => b.contains c) ∧ Ev (fun k => spec_l27Meet.f k a b) r := by
    unfold spec_l27Meet.f
    refine ev_inv0 a.length (fun (_ : Unit) j => (a.take j).any (fun c => b.contains c) = false) (fun r => r = (a.any fun c => b.contains c)) (fun _ i k => spec_l27Meet.l0 k a b i) (fun s hi => ?_) (fun s j hj hi => ?_) () rfl
    · refine ⟨false, ?_, Ev.step (f := fun _ => some false) (fun k => by simp only [spec_l27Meet.l0]; rw [if_neg (by omega)]) (Ev.now _)⟩
      rw [List.take_length] at hi
      exact hi.symm
    · have hg : rd_T69 a (j : Int) = a[j] := by unfold rd_T69; exact getD_nat a _ j hj
      have hw := wrap_succ j (show j < 9223372036854775807 by omega)
      obtain ⟨i, hi2, hik⟩ := sindex_ev b a[j] hb
      cases hc : b.contains a[j] with
      | true =>
        rw [hc] at hi2
        have h0 := of_decide_eq_true hi2
        refine .inl ⟨true, (List.any_eq_true.2 ⟨_, List.getElem_mem hj, hc⟩).symm, Ev.step (f := fun k => (spec_l09Index.f k b a[j].f0 a[j].f1 a[j].f2).bind fun t => if t ≥ 0 then some true else spec_l27Meet.l0 k a b (wrap64 ((j : Int) + 1))) (fun k => ?_) (Ev.bind hik (Ev.val fun k => by rw [if_pos h0]))⟩
        simp only [spec_l27Meet.l0, hg, show (j : Int) < (a.length : Int) from by omega, show (0 : Int) ≤ (j : Int) from by omega, if_true]
      | false =>
        rw [hc] at hi2
        have h0 := of_decide_eq_false hi2
        refine .inr ⟨(), ?_, fun r h2 => Ev.step (f := fun k => (spec_l09Index.f k b a[j].f0 a[j].f1 a[j].f2).bind fun t => if t ≥ 0 then some true else spec_l27Meet.l0 k a b (wrap64 ((j : Int) + 1))) (fun k => ?_) (Ev.bind hik ?_)⟩
        · show (a.take (j + 1)).any _ = false
          rw [List.take_succ_eq_append_getElem hj, List.any_append, hi]
          simp [hc]
          simpa using hc
        · simp only [spec_l27Meet.l0, hg, show (j : Int) < (a.length : Int) from by omega, show (0 : Int) ≤ (j : Int) from by omega, if_true]
        · refine Ev.congr (fun k => ?_) h2
          rw [if_neg h0, hw]
  rw [← hr]
  exact hk
end Go.Proofs.Ytlbckkagjekhnaa.A

/- Two moved parts meet as the program's touch says. No program in sight. -/
namespace Go.Proofs.Ytlbckkagjekhnaa.A
open Go.RowKit Go.Proofs.YtlbckkagjekhnaaW.PrintWords Go.Proofs.YtlbckkagjekhnaaW.PrintLast Go.Proofs.YtlbckkagjekhnaaW.PrintMore
set_option linter.unusedVariables false
set_option linter.unusedSimpArgs false
theorem inCb_iff (c : Cb) (lo hi : Int) : inCb c lo hi = true ↔ (lo ≤ c.f0 ∧ c.f0 ≤ hi) ∧ (lo ≤ c.f1 ∧ c.f1 ≤ hi) ∧ (lo ≤ c.f2 ∧ c.f2 ≤ hi) := by
  unfold inCb inR
  simp only [Bool.and_eq_true, decide_eq_true_eq]
theorem addC_small {a b : Cb} (ha : inCb a (-40) 40 = true) (hb : inCb b (-40) 40 = true) : addC a b = ⟨a.f0 + b.f0, a.f1 + b.f1, a.f2 + b.f2⟩ := by
  rw [inCb_iff] at ha hb
  unfold addC
  rw [wrap_id (by omega) (by omega), wrap_id (by omega) (by omega), wrap_id (by omega) (by omega)]
theorem subC_small {a b : Cb} (ha : inCb a (-40) 40 = true) (hb : inCb b (-40) 40 = true) : subC a b = ⟨a.f0 - b.f0, a.f1 - b.f1, a.f2 - b.f2⟩ := by
  rw [inCb_iff] at ha hb
  unfold subC
  rw [wrap_id (by omega) (by omega), wrap_id (by omega) (by omega), wrap_id (by omega) (by omega)]
theorem inCb_mono {c : Cb} {lo hi lo' hi' : Int} (h : inCb c lo hi = true) (h1 : lo' ≤ lo) (h2 : hi ≤ hi') : inCb c lo' hi' = true := by
  rw [inCb_iff] at h ⊢
  omega
theorem pair_same (Pi Pj : List Cb) (oi oj : Cb) (hi : ∀ c ∈ Pi, inCb c 0 7 = true) (hj : ∀ c ∈ Pj, inCb c 0 7 = true) (h1 : inCb oi (-12) 12 = true) (h2 : inCb oj (-12) 12 = true) :
    ((Pi.map fun c => addC c oi).any fun c => (Pj.map fun c => addC c oj).contains c) = (inCb (subC oi oj) (-7) 7 && meets Pj Pi (subC oi oj)) := by
  have b1 := inCb_mono h1 (show (-40 : Int) ≤ -12 by omega) (show (12 : Int) ≤ 40 by omega)
  have b2 := inCb_mono h2 (show (-40 : Int) ≤ -12 by omega) (show (12 : Int) ≤ 40 by omega)
  have hd := subC_small b1 b2
  have hdb : inCb (subC oi oj) (-40) 40 = true := by
    rw [hd, inCb_iff]
    rw [inCb_iff] at h1 h2
    dsimp only
    omega
  rw [Bool.eq_iff_iff, Bool.and_eq_true, List.any_eq_true]
  unfold meets
  rw [List.any_eq_true]
  constructor
  · rintro ⟨x, hx, hc⟩
    rw [List.mem_map] at hx
    obtain ⟨c, hcm, rfl⟩ := hx
    rw [List.contains_iff_mem, List.mem_map] at hc
    obtain ⟨c', hcm', e⟩ := hc
    have g1 := hi c hcm
    have g2 := hj c' hcm'
    have s1 := inCb_mono g1 (show (-40 : Int) ≤ 0 by omega) (show (7 : Int) ≤ 40 by omega)
    have s2 := inCb_mono g2 (show (-40 : Int) ≤ 0 by omega) (show (7 : Int) ≤ 40 by omega)
    rw [addC_small s2 b2, addC_small s1 b1] at e
    have e0 : c'.f0 + oj.f0 = c.f0 + oi.f0 := congrArg S69.f0 e
    have e1 : c'.f1 + oj.f1 = c.f1 + oi.f1 := congrArg S69.f1 e
    have e2 : c'.f2 + oj.f2 = c.f2 + oi.f2 := congrArg S69.f2 e
    rw [inCb_iff] at g1 g2
    refine ⟨?_, c, hcm, ?_⟩
    · rw [hd, inCb_iff]
      dsimp only
      omega
    · rw [List.contains_iff_mem, addC_small s1 hdb, hd]
      have : (⟨c.f0 + (oi.f0 - oj.f0), c.f1 + (oi.f1 - oj.f1), c.f2 + (oi.f2 - oj.f2)⟩ : Cb) = c' := by
        rcases c' with ⟨a0, a1, a2⟩
        dsimp only at e0 e1 e2
        rw [show c.f0 + (oi.f0 - oj.f0) = a0 by omega, show c.f1 + (oi.f1 - oj.f1) = a1 by omega, show c.f2 + (oi.f2 - oj.f2) = a2 by omega]
      dsimp only
      rw [this]
      exact hcm'
  · rintro ⟨_, c, hcm, hc⟩
    rw [List.contains_iff_mem] at hc
    have g1 := hi c hcm
    have s1 := inCb_mono g1 (show (-40 : Int) ≤ 0 by omega) (show (7 : Int) ≤ 40 by omega)
    have g2 := hj _ hc
    have s2 := inCb_mono g2 (show (-40 : Int) ≤ 0 by omega) (show (7 : Int) ≤ 40 by omega)
    refine ⟨_, List.mem_map.2 ⟨c, hcm, rfl⟩, ?_⟩
    rw [List.contains_iff_mem, List.mem_map]
    refine ⟨_, hc, ?_⟩
    rw [addC_small s2 b2, addC_small s1 hdb, addC_small s1 b1, hd]
    dsimp only
    rw [show c.f0 + (oi.f0 - oj.f0) + oj.f0 = c.f0 + oi.f0 by omega, show c.f1 + (oi.f1 - oj.f1) + oj.f1 = c.f1 + oi.f1 by omega, show c.f2 + (oi.f2 - oj.f2) + oj.f2 = c.f2 + oi.f2 by omega]
end Go.Proofs.Ytlbckkagjekhnaa.A

/- The statement's Clear answers as the program's areOffsets. No program in sight. -/
namespace Go.Proofs.Ytlbckkagjekhnaa.A
open Go.RowKit Go.Proofs.YtlbckkagjekhnaaW.PrintWords Go.Proofs.YtlbckkagjekhnaaW.PrintLast Go.Proofs.YtlbckkagjekhnaaW.PrintMore
set_option linter.unusedVariables false
set_option linter.unusedSimpArgs false
/-- What the inner loop asks at part j. -/
def pairT (parts : List (List Cb)) (offs : List Cb) (i j : Nat) : Bool := touchP parts j i (subC (oAt offs i) (oAt offs j))
theorem alone_eq (parts : List (List Cb)) (offs : List Cb) (i : Nat) (hi : i ≤ offs.length) : aloneP parts (offs.take i) i (oAt offs i) = (List.range i).all (fun j => !pairT parts offs i j) := by
  unfold aloneP pairT
  rw [show (offs.take i).length = i by rw [List.length_take]; omega]
  rw [Bool.eq_iff_iff, List.all_eq_true, List.all_eq_true]
  have g : ∀ j, j < i → (offs.take i).getD j ⟨0, 0, 0⟩ = oAt offs j := fun j hj => by
    simp [oAt, List.getD_eq_getElem?_getD, List.getElem?_take, hj]
  constructor
  · intro h j hj
    have h2 := h j hj
    have hlt := List.mem_range.1 hj
    rw [g j hlt, decide_eq_false (show ¬ (j : Int) = (i : Int) by omega), Bool.false_or] at h2
    exact h2
  · intro h j hj
    have h2 := h j hj
    have hlt := List.mem_range.1 hj
    rw [g j hlt, decide_eq_false (show ¬ (j : Int) = (i : Int) by omega), Bool.false_or]
    exact h2
theorem inner_ev (parts : List (List Cb)) (offs : List Cb) (hl : offs.length = parts.length) (h8 : parts.length ≤ 8) (hsz : ∀ p ∈ parts, p.length ≤ 1048576) (hp : ∀ p ∈ parts, ∀ c ∈ p, inCb c 0 7 = true) (i : Nat) (hi : i < offs.length) (hb : ∀ j, j ≤ i → inCb (oAt offs j) (-12) 12 = true) (j : Nat) (hj : j < i) :
    Ev (fun k => (spec_l09Move.f k (rd_L4 parts (i : Int)) (oAt offs i).f0 (oAt offs i).f1 (oAt offs i).f2).bind fun t170 => ((spec_l09Move.f k (rd_L4 parts (j : Int)) (oAt offs j).f0 (oAt offs j).f1 (oAt offs j).f2).bind fun t175 => spec_l27Meet.f k t170 t175)) (pairT parts offs i j) := by
  have hpi : rd_L4 parts (i : Int) ∈ parts := by
    have : rd_L4 parts (i : Int) = parts[i] := by unfold rd_L4; simp [show i < parts.length by omega]
    rw [this]; exact List.getElem_mem _
  have hpj : rd_L4 parts (j : Int) ∈ parts := by
    have : rd_L4 parts (j : Int) = parts[j] := by unfold rd_L4; simp [show j < parts.length by omega]
    rw [this]; exact List.getElem_mem _
  have e1 : partAt parts (i : Int) = rd_L4 parts (i : Int) := rfl
  have e2 : partAt parts (j : Int) = rd_L4 parts (j : Int) := rfl
  unfold pairT touchP
  rw [e1, e2, ← pair_same _ _ _ _ (hp _ hpi) (hp _ hpj) (hb i (Nat.le_refl _)) (hb j (by omega))]
  refine Ev.bind (smove_ev _ _ (hsz _ hpi)) (Ev.bind (smove_ev _ _ (hsz _ hpj)) (smeet_ev _ _ ?_ ?_))
  · rw [List.length_map]; exact hsz _ hpi
  · rw [List.length_map]; exact hsz _ hpj
theorem l1_step (parts : List (List Cb)) (offs : List Cb) (hl : offs.length = parts.length) (h8 : parts.length ≤ 8) (i : Nat) (hi : i < offs.length) (j : Nat) (hj : j < i) (k : Nat) :
    spec_l27Clear.l1 (k + 1) offs (i : Int) (j : Int) parts (oAt offs i).f0 (oAt offs i).f1 (oAt offs i).f2 = (((spec_l09Move.f k (rd_L4 parts (i : Int)) (oAt offs i).f0 (oAt offs i).f1 (oAt offs i).f2).bind fun t170 => ((spec_l09Move.f k (rd_L4 parts (j : Int)) (oAt offs j).f0 (oAt offs j).f1 (oAt offs j).f2).bind fun t175 => spec_l27Meet.f k t170 t175))).bind fun t178 => if t178 = true then some false else spec_l27Clear.l1 k offs (i : Int) ((j + 1 : Nat) : Int) parts (oAt offs i).f0 (oAt offs i).f1 (oAt offs i).f2 := by
  have hw := wrap_succ j (show j < 9223372036854775807 by omega)
  have hg : rd_T69 offs (j : Int) = oAt offs j := rfl
  simp only [spec_l27Clear.l1, hg, hw, if_true, show (j : Int) < (i : Int) from by omega, show (0 : Int) ≤ (i : Int) from by omega, show (i : Int) < (parts.length : Int) from by omega, show (0 : Int) ≤ (j : Int) from by omega, show (j : Int) < (parts.length : Int) from by omega, show (j : Int) < (offs.length : Int) from by omega, Option.bind_assoc]
theorem l1_pass (parts : List (List Cb)) (offs : List Cb) (hl : offs.length = parts.length) (h8 : parts.length ≤ 8) (hsz : ∀ p ∈ parts, p.length ≤ 1048576) (hp : ∀ p ∈ parts, ∀ c ∈ p, inCb c 0 7 = true) (i : Nat) (hi : i < offs.length) (hb : ∀ j, j ≤ i → inCb (oAt offs j) (-12) 12 = true) (hno : ∀ j, j < i → pairT parts offs i j = false) (r : Bool) (hr : Ev (fun k => spec_l27Clear.l0 k offs ((i + 1 : Nat) : Int) parts) r) :
    Ev (fun k => spec_l27Clear.l1 k offs (i : Int) 0 parts (oAt offs i).f0 (oAt offs i).f1 (oAt offs i).f2) r := by
  refine ev_at i (fun (_ : Unit) j => True) r (fun _ j k => spec_l27Clear.l1 k offs (i : Int) j parts (oAt offs i).f0 (oAt offs i).f1 (oAt offs i).f2) (fun s _ => ?_) (fun s j hj _ => ⟨(), trivial, fun h2 => ?_⟩) () trivial
  · refine Ev.step (f := fun k => spec_l27Clear.l0 k offs ((i + 1 : Nat) : Int) parts) (fun k => ?_) hr
    simp only [spec_l27Clear.l1]
    rw [if_neg (by omega), wrap_succ i (by omega)]
  · refine Ev.step (l1_step parts offs hl h8 i hi j hj) (Ev.bind (inner_ev parts offs hl h8 hsz hp i hi hb j hj) ?_)
    rw [hno j hj]
    exact h2
theorem l1_fail (parts : List (List Cb)) (offs : List Cb) (hl : offs.length = parts.length) (h8 : parts.length ≤ 8) (hsz : ∀ p ∈ parts, p.length ≤ 1048576) (hp : ∀ p ∈ parts, ∀ c ∈ p, inCb c 0 7 = true) (i : Nat) (hi : i < offs.length) (hb : ∀ j, j ≤ i → inCb (oAt offs j) (-12) 12 = true) (hex : ∃ j, j < i ∧ pairT parts offs i j = true) :
    Ev (fun k => spec_l27Clear.l1 k offs (i : Int) 0 parts (oAt offs i).f0 (oAt offs i).f1 (oAt offs i).f2) false := by
  obtain ⟨r, hr, hk⟩ : ∃ r, r = false ∧ Ev (fun k => spec_l27Clear.l1 k offs (i : Int) 0 parts (oAt offs i).f0 (oAt offs i).f1 (oAt offs i).f2) r := by
    refine ev_inv0 i (fun (_ : Unit) j => ∀ j', j' < j → pairT parts offs i j' = false) (fun r => r = false) (fun _ j k => spec_l27Clear.l1 k offs (i : Int) j parts (oAt offs i).f0 (oAt offs i).f1 (oAt offs i).f2) (fun s hI => ?_) (fun s j hj hI => ?_) () (fun j' h => by omega)
    · obtain ⟨j, hj, hjt⟩ := hex
      rw [hI j hj] at hjt
      cases hjt
    · cases ht : pairT parts offs i j with
      | true =>
        refine .inl ⟨false, rfl, Ev.step (l1_step parts offs hl h8 i hi j hj) (Ev.bind (inner_ev parts offs hl h8 hsz hp i hi hb j hj) ?_)⟩
        rw [ht]
        exact Ev.val fun k => rfl
      | false =>
        refine .inr ⟨(), fun j' h => ?_, fun r h2 => Ev.step (l1_step parts offs hl h8 i hi j hj) (Ev.bind (inner_ev parts offs hl h8 hsz hp i hi hb j hj) ?_)⟩
        · by_cases c : j' = j
          · subst c; exact ht
          · exact hI j' (by omega)
        · rw [ht]
          exact h2
  rw [← hr]
  exact hk
theorem l0_yes (parts : List (List Cb)) (offs : List Cb) (h8 : offs.length ≤ 8) (i : Nat) (hi : i < offs.length) (hb : inCb (oAt offs i) (-12) 12 = true) (k : Nat) : spec_l27Clear.l0 (k + 1) offs (i : Int) parts = spec_l27Clear.j2 k offs (i : Int) false parts (oAt offs i).f0 (oAt offs i).f1 (oAt offs i).f2 := by
  have hg : rd_T69 offs (i : Int) = oAt offs i := rfl
  unfold inCb at hb
  rw [Bool.and_eq_true, Bool.and_eq_true] at hb
  simp only [spec_l27Clear.l0, hg, in_eq, Option.bind_some, hb.1, hb.2.1, hb.2.2, if_true, Bool.not_true, show (i : Int) < (offs.length : Int) from by omega, show (0 : Int) ≤ (i : Int) from by omega]
theorem l0_no (parts : List (List Cb)) (offs : List Cb) (h8 : offs.length ≤ 8) (i : Nat) (hi : i < offs.length) (hb : inCb (oAt offs i) (-12) 12 = false) (k : Nat) : spec_l27Clear.l0 (k + 1) offs (i : Int) parts = spec_l27Clear.j2 k offs (i : Int) true parts (oAt offs i).f0 (oAt offs i).f1 (oAt offs i).f2 := by
  have hg : rd_T69 offs (i : Int) = oAt offs i := rfl
  unfold inCb at hb
  simp only [spec_l27Clear.l0, hg, in_eq, Option.bind_some, if_true, show (i : Int) < (offs.length : Int) from by omega, show (0 : Int) ≤ (i : Int) from by omega]
  cases e0 : inR (oAt offs i).f0 (-12) 12
  · rfl
  · cases e1 : inR (oAt offs i).f1 (-12) 12
    · rfl
    · cases e2 : inR (oAt offs i).f2 (-12) 12
      · rfl
      · rw [e0, e1, e2] at hb
        cases hb
theorem l0_ev (parts : List (List Cb)) (offs : List Cb) (hl : offs.length = parts.length) (h8 : parts.length ≤ 8) (hsz : ∀ p ∈ parts, p.length ≤ 1048576) (hp : ∀ p ∈ parts, ∀ c ∈ p, inCb c 0 7 = true) :
    Ev (fun k => spec_l27Clear.l0 k offs 0 parts) (offs.all (fun c => inCb c (-12) 12) && clearP parts offs) := by
  have hallno : ∀ i, i < offs.length → inCb (oAt offs i) (-12) 12 = false → offs.all (fun c => inCb c (-12) 12) = false := fun i hi h => by
    rw [Bool.eq_false_iff]
    intro hc
    rw [List.all_eq_true] at hc
    have := hc (oAt offs i) (by simp [oAt, List.getD_eq_getElem?_getD, hi])
    rw [h] at this
    cases this
  obtain ⟨r, hr, hk⟩ : ∃ r, r = (offs.all (fun c => inCb c (-12) 12) && clearP parts offs) ∧ Ev (fun k => spec_l27Clear.l0 k offs 0 parts) r := by
    refine ev_inv0 offs.length (fun (_ : Unit) i => ∀ i', i' < i → inCb (oAt offs i') (-12) 12 = true ∧ aloneP parts (offs.take i') i' (oAt offs i') = true) (fun r => r = (offs.all (fun c => inCb c (-12) 12) && clearP parts offs)) (fun _ i k => spec_l27Clear.l0 k offs i parts) (fun s hI => ?_) (fun s i hi hI => ?_) () (fun i' h => by omega)
    · refine ⟨true, ?_, Ev.step (f := fun _ => some true) (fun k => by simp only [spec_l27Clear.l0]; rw [if_neg (by omega)]) (Ev.now _)⟩
      have h1 : offs.all (fun c => inCb c (-12) 12) = true := by
        rw [List.all_eq_true]
        intro c hc
        obtain ⟨i, hi, rfl⟩ := List.getElem_of_mem hc
        have := (hI i hi).1
        rwa [show oAt offs i = offs[i] by simp [oAt, List.getD_eq_getElem?_getD, hi]] at this
      have h2 : clearP parts offs = true := by
        unfold clearP
        rw [List.all_eq_true]
        intro i hi
        exact (hI i (List.mem_range.1 hi)).2
      rw [h1, h2]
      rfl
    · cases hb : inCb (oAt offs i) (-12) 12 with
      | false =>
        refine .inl ⟨false, ?_, Ev.step (l0_no parts offs (by omega) i hi hb) (Ev.step (f := fun _ => some false) (fun k => by simp only [spec_l27Clear.j2, if_true]) (Ev.now _))⟩
        rw [hallno i hi hb]
        rfl
      | true =>
        have hbs : ∀ j, j ≤ i → inCb (oAt offs j) (-12) 12 = true := fun j hj => by
          by_cases c : j = i
          · subst c; exact hb
          · exact (hI j (by omega)).1
        have hae := alone_eq parts offs i (by omega)
        have hj2 : ∀ k, spec_l27Clear.j2 (k + 1) offs (i : Int) false parts (oAt offs i).f0 (oAt offs i).f1 (oAt offs i).f2 = spec_l27Clear.l1 k offs (i : Int) 0 parts (oAt offs i).f0 (oAt offs i).f1 (oAt offs i).f2 := fun k => by simp only [spec_l27Clear.j2, Bool.false_eq_true, if_false]
        cases ha : (List.range i).all (fun j => !pairT parts offs i j) with
        | true =>
          refine .inr ⟨(), fun i' h => ?_, fun r h2 => Ev.step (l0_yes parts offs (by omega) i hi hb) (Ev.step hj2 (l1_pass parts offs hl h8 hsz hp i hi hbs (fun j hj => ?_) r h2))⟩
          · by_cases c : i' = i
            · subst c; exact ⟨hb, hae.trans ha⟩
            · exact hI i' (by omega)
          · rw [List.all_eq_true] at ha
            have := ha j (List.mem_range.2 hj)
            simpa using this
        | false =>
          refine .inl ⟨false, ?_, Ev.step (l0_yes parts offs (by omega) i hi hb) (Ev.step hj2 (l1_fail parts offs hl h8 hsz hp i hi hbs ?_))⟩
          · have : clearP parts offs = false := by
              rw [Bool.eq_false_iff]
              intro hc
              unfold clearP at hc
              rw [List.all_eq_true] at hc
              have h3 := hc i (List.mem_range.2 hi)
              rw [hae, ha] at h3
              cases h3
            rw [this, Bool.and_false]
          · rw [List.all_eq_false] at ha
            obtain ⟨j, hj, hn⟩ := ha
            exact ⟨j, List.mem_range.1 hj, by simpa using hn⟩
  rw [← hr]
  exact hk
theorem clear_ev (parts : List (List Cb)) (offs : List Cb) (hl : offs.length = parts.length) (h1 : 1 ≤ parts.length) (h8 : parts.length ≤ 8) (hsz : ∀ p ∈ parts, p.length ≤ 1048576) (hp : ∀ p ∈ parts, ∀ c ∈ p, inCb c 0 7 = true) :
    Ev (fun k => spec_l27Clear.f k parts offs) (areOffP parts offs) := by
  have hz : (!(((rd_T69 offs 0).f0) == 0) || (!(((rd_T69 offs 0).f1) == 0) || (!(((rd_T69 offs 0).f2) == 0)))) = !decide (oAt offs 0 = ⟨0, 0, 0⟩) := by
    rw [← eq_cb]
    show (!((oAt offs 0).f0 == 0) || (!((oAt offs 0).f1 == 0) || !((oAt offs 0).f2 == 0))) = _
    cases (oAt offs 0).f0 == 0 <;> cases (oAt offs 0).f1 == 0 <;> cases (oAt offs 0).f2 == 0 <;> rfl
  have hf : ∀ k, spec_l27Clear.f k parts offs = spec_l27Clear.j0 k offs (!decide (oAt offs 0 = ⟨0, 0, 0⟩)) parts := fun k => by
    unfold spec_l27Clear.f
    rw [if_pos (by omega), if_pos (by omega), hz]
  refine Ev.congr hf ?_
  unfold areOffP
  rw [decide_eq_true hl, Bool.true_and]
  cases hd : decide (offs.getD 0 ⟨0, 0, 0⟩ = ⟨0, 0, 0⟩) with
  | false => exact Ev.step (f := fun _ => some false) (fun k => by simp only [spec_l27Clear.j0, Bool.not_false, if_true]) (Ev.now _)
  | true =>
    refine Ev.step (f := fun k => spec_l27Clear.l0 k offs 0 parts) (fun k => by simp only [spec_l27Clear.j0, Bool.not_true, Bool.false_eq_true, if_false]) ?_
    rw [Bool.true_and]
    exact l0_ev parts offs hl h8 hsz hp
end Go.Proofs.Ytlbckkagjekhnaa.A

/- The statement's Possible and Moves answer as the program's. No program in sight. -/
namespace Go.Proofs.Ytlbckkagjekhnaa.A
open Go.RowKit Go.Proofs.YtlbckkagjekhnaaW.PrintWords Go.Proofs.YtlbckkagjekhnaaW.PrintLast Go.Proofs.YtlbckkagjekhnaaW.PrintMore
set_option linter.unusedVariables false
set_option linter.unusedSimpArgs false
theorem shl_eq (n : Nat) (h : n ≤ 8) : shl .i64 6 (IntKind.u64.wrap (n : Int)) = ((6 * 2 ^ n : Nat) : Int) := (i64_w _).trans (pow6_len n h)
theorem odd_eq (m : Nat) (h6 : 6 ≤ m) (hm : m ≤ 1000000) : ((wrap64 (Int.tdiv (m : Int) 6)).tmod 2 == 1) = decide (m / 6 % 2 = 1) := by
  rw [set_of (m : Int) (by omega) (by omega), Int.toNat_natCast, show (((m / 6 : Nat) : Int)).tmod 2 = ((m / 6 % 2 : Nat) : Int) from rfl]
  rw [Bool.eq_iff_iff, beq_iff_eq, decide_eq_true_eq]
  omega
theorem poss_ev (parts : List (List Cb)) (o : List Cb) (hl : o.length = parts.length) (h1 : 1 ≤ parts.length) (h8 : parts.length ≤ 8) (hsz : ∀ p ∈ parts, p.length ≤ 1048576) (hp : ∀ p ∈ parts, ∀ c ∈ p, inCb c 0 7 = true) (m : Nat) (h6 : 6 ≤ m) (hT : m < 6 * 2 ^ parts.length) :
    Ev (fun k => spec_l27Possible.f k parts o (m : Int)) (isMv parts.length (m : Int) && possP parts o (m : Int)) := by
  have hpw := pow_le8 parts.length h8
  have hsh := shl_eq parts.length h8
  have hmv : isMv parts.length (m : Int) = decide (m / 6 % 2 = 0) := by
    unfold isMv
    rw [pow_int]
    generalize 2 ^ parts.length = N2 at hT hpw
    rw [decide_eq_true (show (6 : Int) ≤ (m : Int) by omega), decide_eq_true (show (m : Int) < 6 * (N2 : Int) by omega), Bool.true_and, Bool.true_and, decide_eq_decide]
    omega
  have hf : ∀ k, spec_l27Possible.f k parts o (m : Int) = spec_l27Possible.j0 k o (m : Int) (decide (m / 6 % 2 = 1)) parts := fun k => by
    unfold spec_l27Possible.f
    rw [if_pos (u64_nn _ h8), hsh, in_eq, Option.bind_some]
    generalize 2 ^ parts.length = N2 at hT hpw
    rw [wrap_id (by omega) (by omega), show inR (m : Int) 6 (((6 * N2 : Nat) : Int) - 1) = true by unfold inR; rw [Bool.and_eq_true, decide_eq_true_eq, decide_eq_true_eq]; omega, if_pos rfl, odd_eq m h6 (by omega)]
  refine Ev.congr hf ?_
  rw [hmv]
  by_cases c : m / 6 % 2 = 1
  · rw [decide_eq_true c, decide_eq_false (show ¬ m / 6 % 2 = 0 by omega), Bool.false_and]
    exact Ev.step (f := fun _ => some false) (fun k => by simp only [spec_l27Possible.j0, if_true]) (Ev.now _)
  · rw [decide_eq_false c, decide_eq_true (show m / 6 % 2 = 0 by omega), Bool.true_and]
    refine Ev.step (f := fun k => (spec_l27After.f k o (m : Int)).bind fun t412 => ((spec_l27Clear.f k parts t412).bind fun t415 => (some t415))) (fun k => by simp only [spec_l27Possible.j0, Bool.false_eq_true, if_false]) ?_
    refine Ev.bind (after_ev o (m : Int) (by omega) (by omega) (by generalize 2 ^ parts.length = N2 at hT hpw; omega)) ?_
    exact Ev.bind (clear_ev parts (movedP o (m : Int)) (by rw [movedP_len]; exact hl) h1 h8 hsz hp) (Ev.val fun k => rfl)
theorem movesK_low (parts : List (List Cb)) (o : List Cb) (m : Nat) (h : m ≤ 12) : movesK parts o m = [] := by
  unfold movesK
  rw [List.map_eq_nil_iff, List.filter_eq_nil_iff]
  intro a ha
  have := List.mem_range.1 ha
  rw [decide_eq_false (by omega), Bool.false_and]
  simp
theorem movesK_step (parts : List (List Cb)) (o : List Cb) (m : Nat) (h : 6 ≤ m) : movesK parts o (m + 1) = movesK parts o m ++ (if (isMv parts.length (m : Int) && possP parts o (m : Int)) = true then [(m : Int)] else []) := by
  by_cases c : 12 ≤ m
  · exact movesK_succ parts o m c
  · rw [movesK_low parts o (m + 1) (by omega), movesK_low parts o m (by omega)]
    have : isMv parts.length (m : Int) = false := by
      unfold isMv
      rw [show decide ((m : Int) / 6 % 2 = 0) = false from decide_eq_false (by omega), Bool.and_false, Bool.and_false]
    rw [this, Bool.false_and, if_neg (by simp)]
    rfl
theorem smoves_ev (parts : List (List Cb)) (o : List Cb) (hl : o.length = parts.length) (h1 : 1 ≤ parts.length) (h8 : parts.length ≤ 8) (hsz : ∀ p ∈ parts, p.length ≤ 1048576) (hp : ∀ p ∈ parts, ∀ c ∈ p, inCb c 0 7 = true) :
    Ev (fun k => spec_l27Moves.f k parts o) (movesP parts o) := by
  have hpw := pow_le8 parts.length h8
  have hp1 : 1 ≤ 2 ^ parts.length := Nat.pos_of_ne_zero (by simp)
  have hsh := shl_eq parts.length h8
  have hnn := u64_nn parts.length h8
  obtain ⟨T, hTd⟩ : ∃ T, T = 6 * 2 ^ parts.length := ⟨_, rfl⟩
  have hT1 : 6 ≤ T ∧ T ≤ 1536 := by
    rw [hTd]
    generalize 2 ^ parts.length = N2 at hpw hp1
    omega
  rw [← hTd] at hsh
  obtain ⟨r, hr, hk⟩ : ∃ r, r = movesP parts o ∧ Ev (fun k => spec_l27Moves.l0 k o [] ((6 : Nat) : Int) parts) r := by
    refine ev_inv T (fun (s : List Int) j => 6 ≤ j ∧ s = movesK parts o j) (fun r => r = movesP parts o) (fun s i k => spec_l27Moves.l0 k o s i parts) (fun s hI => ?_) (fun s j hj hI => ?_) (T - 6) 6 [] (by omega) ⟨Nat.le_refl _, (movesK_low parts o 6 (by omega)).symm⟩
    · refine ⟨s, ?_, Ev.step (f := fun _ => some s) (fun k => by simp only [spec_l27Moves.l0, hnn, hsh, if_true]; rw [if_neg (by omega)]) (Ev.now _)⟩
      rw [hI.2, hTd]
      rfl
    · have c6 := hI.1
      have hs := hI.2
      have hw := wrap_succ j (show j < 9223372036854775807 by omega)
      have hsl : s.length < 17592186044416 := by
        rw [hs]
        have := movesK_len parts o j
        omega
      have hpe := poss_ev parts o hl h1 h8 hsz hp j c6 (by rw [← hTd]; exact hj)
      have hst := movesK_step parts o j c6
      refine .inr ⟨movesK parts o (j + 1), ⟨by omega, rfl⟩, fun r h2 => ?_⟩
      refine Ev.step (f := fun k => (spec_l27Possible.f k parts o (j : Int)).bind fun t420 => if t420 = true then spec_l27Moves.l0 k o (s ++ [(j : Int)]) ((j + 1 : Nat) : Int) parts else spec_l27Moves.l0 k o s ((j + 1 : Nat) : Int) parts) (fun k => ?_) (Ev.bind hpe ?_)
      · simp only [spec_l27Moves.l0, hnn, hsh, hsl, hw, if_true, show (j : Int) < (T : Int) from by omega]
      · cases hb : isMv parts.length (j : Int) && possP parts o (j : Int) with
        | true =>
          rw [hst, hb, if_pos rfl, ← hs] at h2
          exact h2
        | false =>
          rw [hst, hb, if_neg (by simp), List.append_nil, ← hs] at h2
          exact h2
  rw [← hr]
  exact hk
end Go.Proofs.Ytlbckkagjekhnaa.A

/- HAND spec.l09Solid (spec.l09Solid) walked over separate resources; it stands in the place of a printed text. -/
namespace Go.Proofs.Ytlbckkagjekhnaa.A
open Go.RowKit Go.Proofs.YtlbckkagjekhnaaW.PrintWords Go.Proofs.YtlbckkagjekhnaaW.PrintLast Go.Proofs.YtlbckkagjekhnaaW.PrintMore
set_option linter.unusedVariables false
set_option linter.unusedSimpArgs false
def spec_l09Solid.f (k : Nat) (l : List Cb) : Option Bool := if l.length ≤ 1048576 then some (solP l) else none
def ssoF.T4 : Bool × List (List Nat × List Nat) := (true, [([], []), ([], []), ([0, 1], [0, 1]), ([2], [2]), ([3], [3]), ([4], [4]), ([5, 4], [5]), ([6], [6]), ([7, 6], [6, 7]), ([8, 6, 6], [6, 8]), ([9], [9]), ([9], [9]), ([11, 9], [9, 11]), ([10, 12, 9], [9, 10, 12]), ([13, 9], [9, 13]), ([9], [9]), ([9], [9]), ([15, 16, 9], [9, 15, 16]), ([17, 9], [9, 17]), ([14, 18, 9, 9], [9, 14, 18]), ([19, 9], [9, 19]), ([9, 20, 6], [6, 9, 20]), ([6, 21], [6, 21])])
def ssoF.B4 : List Nat := [0, 0, 3, 7, 15, 31, 63, 127, 255, 511, 1023, 1023, 3071, 8191, 16383, 1023, 1023, 99327, 230399, 524287, 1048575, 2097151, 4194303]
theorem ssoF.tab4 : rtab .any (opsOf Try.f76 4) = ssoF.T4 := by kernel_rfl
theorem ssoF.bits4 : waitsOk ssoF.T4.2 ssoF.B4 = true := by kernel_rfl
set_option maxHeartbeats 4000000 in
set_option maxRecDepth 100000 in
theorem spec_l09Solid.calls (k : Nat) (A0 : Option Addr) (c0 : Nat) (l : List Cb) (r : Bool) (w : World) (hr0 : Kd.C k69 w A0 l.length l) (hc0 : l.length ≤ c0) (h : spec_l09Solid.f k l = some r) :
    Calls Try.prog 76 #[.slice A0 l.length c0] w fun e w' => e = .returned (.bool r) ∧ Below w.heap.size w w' := by
 (have hu69 := Try.underlying69); (unfold spec_l09Solid.f at h); (split at h)
 case isFalse => cases h
 (rename_i hz); (obtain rfl := Option.some.inj h); (have HR0 := A0_ hr0); (have HZ := A0_ hz); (have HS := A0_ (Sp.start w)); clear hr0 hz h; (go_enter Try.func76, Try.ntmps76); go_wp2
 go_loopg [3] (l.length + 1) (fun kq v3 w' => ∃ (i : Nat), v3 = .int .i64 (i : Int) ∧ Aside0 (i ≤ l.length ∧ kq + i = l.length + 1 ∧ (List.range i).all (solStep l) = true) ∧ Aside0 (Sp w [] w'))
 case atStart => exact ⟨0, rfl, ⟨by omega, by omega, rfl⟩, HS⟩
 case round =>
  clear HS; (obtain ⟨i, rfl, HX, HS⟩ := hrel); (obtain ⟨k1, rfl⟩ : ∃ k1, gk = k1 + 1 := ⟨gk - 1, by have := HX.out; omega⟩); (by_cases ci : i < l.length)
  ·(have ci0 : decide (i < l.length) = true := decide_eq_true ci); (have q0 : (0 ≤ (i : Int)) = True := eq_true (by omega)); (have q1 : ((i : Int) < (l.length : Int)) = True := eq_true (by omega)); (have q2 : (i < l.length) = True := eq_true ci); (have HW := A0_ (wrap_succ i (by have := HZ.out; omega))); (have HNO := A0_ (solP_no l i ci)); (have HNX := A0_ (solP_next l i HX.out.2.2)); (obtain ⟨adl, e, hx0, hx1, hx2⟩ := at_T69 HR0.out (i : Int) (by omega) (by omega)); subst e; (rw [show rd_T69 l (i : Int) = cAt l i from rfl] at hx0 hx1 hx2); (rw [Int.toNat_natCast] at hx0 hx1 hx2); (have hss : solStep l i = (inCb (cAt l i) (-100) 100 && (decide (i = 0) || lessC (cAt l (i - 1)) (cAt l i))) := rfl); (rw [hss] at HNO HNX); clear hss; (have HCI := A0_ ci); (obtain ⟨c, hc⟩ : ∃ c, c = cAt l i := ⟨_, rfl⟩); (rw [← hc] at hx0 hx1 hx2 HNO HNX); (have HC0 := A0_ hx0); (have HC1 := A0_ hx1); (have HC2 := A0_ hx2); clear ci hc hx0 hx1 hx2; (have HS_ := A0_ (show Sp w (([] : List Res) ++ ([] : List Res)) wr.drew from Sp.drew HS.out)); clear HS; (have HS := HS_); clear HS_
   cases b : inCb c (-100) 100 with
   | false =>
    (have HB := A0_ ((cube_eq c).trans (congrArg some b))); (have HF := A0_ (HNO.out (by rw [b]; rfl))); clear HNO HNX b; go_wp2
    refine start_ (n := 23) (S := fun w' => w'.cell? (adl.add (i * 3)) = some (.int .i64 c.f0) ∧ w'.cell? ⟨(adl.add (i * 3)).block, (adl.add (i * 3)).off + 1, none⟩ = some (.int .i64 c.f1) ∧ w'.cell? ⟨(adl.add (i * 3)).block, (adl.add (i * 3)).off + 2, none⟩ = some (.int .i64 c.f2)) (ds := []) #[ff,ff,ff,ff,ff,ff,ff,ff,ff,ff,ff,ff,ff,ff,ff,ff,ff,ff,ff,ff,ff,ff,ff] (by kernel_rfl) rfl rfl (⟨pw_cell_below HS.out.below HC0.out, pw_cell_below HS.out.below HC1.out, pw_cell_below HS.out.below HC2.out⟩) (fun hHeld => ?_)
    refine with_tabW ssoF.tab4 ssoF.bits4 (fun HT_ HW_ => ?_)
    (generalize wr.drew = wD at HS hHeld ⊢); (refine on_ 0 (some 10) ?_); (refine on_ 1 (some 11) ?_); (refine on_ 2 (some 12) ?_); (refine tk_ 3 (some 13) ?_)
    refine o1_ 4 (some 14) (fun K hK => ?_)
    (refine goes_ Try.func99 (by kernel_rfl) rfl #[.agg #[.int .i64 c.f0, .int .i64 c.f1, .int .i64 c.f2]] (by rfl) rfl rfl (by (try simp only [List.map_toArray, List.map_cons, List.map_nil]); first | done | rfl | (simp only [List.length_drop, List.length_take]; rfl)) ?_); (refine (spec_l09Cube.calls c.f0 c.f1 c.f2 false _ HB.out).mono ?_); (rintro e wA11 ⟨rfl, hb⟩); (refine ⟨_, rfl, ?_⟩); (have HS_ := A0_ (Sp.far HS.out hb)); clear HS; (have HS := HS_); clear HS_; clear hb
    refine hK.out _ _ (⟨pw_cell_below HS.out.below HC0.out, pw_cell_below HS.out.below HC1.out, pw_cell_below HS.out.below HC2.out⟩) (fun hHeld => ?_)
    clear hK K; (refine nm_ (some 14) ?_); (refine on_ 5 (some 15) ?_); (refine on_ 6 (some 16) ?_); (refine of_ 7 (some 17) ?_); (refine of_ 8 (some 18) ?_); (refine of_ 9 (some 19) ?_); (refine of_ 10 (some 20) ?_); (refine of_ 11 (some 21) ?_); (refine of_ 12 (some 22) ?_); (refine of_ 13 (some 23) ?_); (refine of_ 14 (some 24) ?_); (refine of_ 15 (some 25) ?_); (refine of_ 16 (some 26) ?_); (refine of_ 17 (some 27) ?_); (refine of_ 18 (some 28) ?_); (refine of_ 19 (some 29) ?_); (refine of_ 20 (some 30) ?_); (refine of_ 21 (some 31) ?_); (refine on_ 22 (some 32) ?_); (refine dn_ ?_); go_wp2; go_ret; (exact ⟨by rw [HF.out]; rfl, HS.out.below⟩)
   | true =>
    (have HB := A0_ ((cube_eq c).trans (congrArg some b))); (rw [b, Bool.true_and] at HNO HNX); clear b; (by_cases hi0 : i = 0)
    ·(have HN := A0_ (HNX.out (by rw [decide_eq_true hi0]; rfl))); (have d0 : decide (0 < i) = false := decide_eq_false (by omega)); (have d1 : (0 < i) = False := eq_false (by omega)); (have d2 : decide ((0 : Int) < (i : Int)) = false := decide_eq_false (by omega)); (have d3 : ((0 : Int) < (i : Int)) = False := eq_false (by omega)); clear HNO HNX hi0; go_wp2
     refine start_ (n := 23) (S := fun w' => w'.cell? (adl.add (i * 3)) = some (.int .i64 c.f0) ∧ w'.cell? ⟨(adl.add (i * 3)).block, (adl.add (i * 3)).off + 1, none⟩ = some (.int .i64 c.f1) ∧ w'.cell? ⟨(adl.add (i * 3)).block, (adl.add (i * 3)).off + 2, none⟩ = some (.int .i64 c.f2)) (ds := []) #[ff,ff,ff,ff,ff,ff,ff,ff,ff,ff,ff,ff,ff,ff,ff,ff,ff,ff,ff,ff,ff,ff,ff] (by kernel_rfl) rfl rfl (⟨pw_cell_below HS.out.below HC0.out, pw_cell_below HS.out.below HC1.out, pw_cell_below HS.out.below HC2.out⟩) (fun hHeld => ?_)
     refine with_tabW ssoF.tab4 ssoF.bits4 (fun HT_ HW_ => ?_)
     (generalize wr.drew = wD at HS hHeld ⊢); (refine on_ 0 (some 10) ?_); (refine on_ 1 (some 11) ?_); (refine on_ 2 (some 12) ?_); (refine tk_ 3 (some 13) ?_)
     refine o1_ 4 (some 14) (fun K hK => ?_)
     (refine goes_ Try.func99 (by kernel_rfl) rfl #[.agg #[.int .i64 c.f0, .int .i64 c.f1, .int .i64 c.f2]] (by rfl) rfl rfl (by (try simp only [List.map_toArray, List.map_cons, List.map_nil]); first | done | rfl | (simp only [List.length_drop, List.length_take]; rfl)) ?_); (refine (spec_l09Cube.calls c.f0 c.f1 c.f2 true _ HB.out).mono ?_); (rintro e wA11 ⟨rfl, hb⟩); (refine ⟨_, rfl, ?_⟩); (have HS_ := A0_ (Sp.far HS.out hb)); clear HS; (have HS := HS_); clear HS_; clear hb
     refine hK.out _ _ (⟨pw_cell_below HS.out.below HC0.out, pw_cell_below HS.out.below HC1.out, pw_cell_below HS.out.below HC2.out⟩) (fun hHeld => ?_)
     clear hK K; (refine nm_ (some 14) ?_); (refine on_ 5 (some 15) ?_); (refine on_ 6 (some 16) ?_); (refine on_ 7 (some 17) ?_); (refine on_ 8 (some 18) ?_); (refine on_ 9 (some 19) ?_); (refine of_ 10 (some 20) ?_); (refine of_ 11 (some 21) ?_); (refine of_ 12 (some 22) ?_); (refine of_ 13 (some 23) ?_); (refine of_ 14 (some 24) ?_); (refine of_ 15 (some 25) ?_); (refine of_ 16 (some 26) ?_); (refine of_ 17 (some 27) ?_); (refine of_ 18 (some 28) ?_); (refine of_ 19 (some 29) ?_); (refine of_ 20 (some 30) ?_); (refine on_ 21 (some 31) ?_); (refine on_ 22 (some 32) ?_); (refine dn_ ?_); go_wp2; (go_roundg k1)
     case measure => omega
     case rel =>
      (rw [HW.out]); (exact ⟨i + 1, rfl, ⟨by have := HCI.out; omega, by have := HX.out; omega, HN.out⟩, HS⟩)
    ·(have d0 : decide (0 < i) = true := decide_eq_true (by omega)); (have d1 : (0 < i) = True := eq_true (by omega)); (have d2 : decide ((0 : Int) < (i : Int)) = true := decide_eq_true (by omega)); (have d3 : ((0 : Int) < (i : Int)) = True := eq_true (by omega)); (have e1 : wrap64 ((i : Int) - 1) = ((i - 1 : Nat) : Int) := by rw [wrap_id (by omega) (by have := HZ.out; have := HCI.out; omega)]; omega); (have p0 : (0 ≤ ((i - 1 : Nat) : Int)) = True := eq_true (by omega)); (have p1 : (((i - 1 : Nat) : Int) < (l.length : Int)) = True := eq_true (by have := HCI.out; omega)); (have p2 : (i - 1 < l.length) = True := eq_true (by have := HCI.out; omega)); (rw [decide_eq_false hi0, Bool.false_or] at HNO HNX); (obtain ⟨ad2, e, hx0, hx1, hx2⟩ := at_T69 HR0.out ((i - 1 : Nat) : Int) (by omega) (by have := HCI.out; omega)); (injection e with e); subst e; (rw [show rd_T69 l ((i - 1 : Nat) : Int) = cAt l (i - 1) from rfl] at hx0 hx1 hx2); (rw [Int.toNat_natCast] at hx0 hx1 hx2); (obtain ⟨q, hq⟩ : ∃ q, q = cAt l (i - 1) := ⟨_, rfl⟩); (rw [← hq] at hx0 hx1 hx2 HNO HNX); (have HQ0 := A0_ hx0); (have HQ1 := A0_ hx1); (have HQ2 := A0_ hx2); (obtain ⟨t, ht⟩ : ∃ t, t = lessC q c := ⟨_, rfl⟩); (rw [← ht] at HNO HNX); (have HL := A0_ ((less_eq q c).trans (congrArg some ht.symm))); clear hx0 hx1 hx2 hq ht hi0; go_wp2
     refine start_ (n := 23) (S := fun w' => w'.cell? (adl.add (i * 3)) = some (.int .i64 c.f0) ∧ w'.cell? ⟨(adl.add (i * 3)).block, (adl.add (i * 3)).off + 1, none⟩ = some (.int .i64 c.f1) ∧ w'.cell? ⟨(adl.add (i * 3)).block, (adl.add (i * 3)).off + 2, none⟩ = some (.int .i64 c.f2) ∧ w'.cell? (adl.add ((i - 1) * 3)) = some (.int .i64 q.f0) ∧ w'.cell? ⟨(adl.add ((i - 1) * 3)).block, (adl.add ((i - 1) * 3)).off + 1, none⟩ = some (.int .i64 q.f1) ∧ w'.cell? ⟨(adl.add ((i - 1) * 3)).block, (adl.add ((i - 1) * 3)).off + 2, none⟩ = some (.int .i64 q.f2)) (ds := []) #[ff,ff,ff,ff,ff,ff,ff,ff,ff,ff,ff,ff,ff,ff,ff,ff,ff,ff,ff,ff,ff,ff,ff] (by kernel_rfl) rfl rfl (⟨pw_cell_below HS.out.below HC0.out, pw_cell_below HS.out.below HC1.out, pw_cell_below HS.out.below HC2.out, pw_cell_below HS.out.below HQ0.out, pw_cell_below HS.out.below HQ1.out, pw_cell_below HS.out.below HQ2.out⟩) (fun hHeld => ?_)
     refine with_tabW ssoF.tab4 ssoF.bits4 (fun HT_ HW_ => ?_)
     (generalize wr.drew = wD at HS hHeld ⊢); (refine on_ 0 (some 10) ?_); (refine on_ 1 (some 11) ?_); (refine on_ 2 (some 12) ?_); (refine tk_ 3 (some 13) ?_)
     refine o1_ 4 (some 14) (fun K hK => ?_)
     (refine goes_ Try.func99 (by kernel_rfl) rfl #[.agg #[.int .i64 c.f0, .int .i64 c.f1, .int .i64 c.f2]] (by rfl) rfl rfl (by (try simp only [List.map_toArray, List.map_cons, List.map_nil]); first | done | rfl | (simp only [List.length_drop, List.length_take]; rfl)) ?_); (refine (spec_l09Cube.calls c.f0 c.f1 c.f2 true _ HB.out).mono ?_); (rintro e wA11 ⟨rfl, hb⟩); (refine ⟨_, rfl, ?_⟩); (have HS_ := A0_ (Sp.far HS.out hb)); clear HS; (have HS := HS_); clear HS_; clear hb
     refine hK.out _ _ (⟨pw_cell_below HS.out.below HC0.out, pw_cell_below HS.out.below HC1.out, pw_cell_below HS.out.below HC2.out, pw_cell_below HS.out.below HQ0.out, pw_cell_below HS.out.below HQ1.out, pw_cell_below HS.out.below HQ2.out⟩) (fun hHeld => ?_)
     clear hK K; (refine nm_ (some 14) ?_); (refine on_ 5 (some 15) ?_); (refine on_ 6 (some 16) ?_); (refine on_ 7 (some 17) ?_); (refine on_ 8 (some 18) ?_); (refine on_ 9 (some 19) ?_); (refine on_ 10 (some 20) ?_); (refine on_ 11 (some 21) ?_); (refine on_ 12 (some 22) ?_); (refine on_ 13 (some 23) ?_); (refine tk_ 14 (some 24) ?_); (refine on_ 15 (some 25) ?_); (refine on_ 16 (some 26) ?_); (refine on_ 17 (some 27) ?_); (refine tk_ 18 (some 28) ?_)
     refine o1_ 19 (some 29) (fun K hK => ?_)
     (refine goes_ Try.func100 (by kernel_rfl) rfl #[.agg #[.int .i64 q.f0, .int .i64 q.f1, .int .i64 q.f2], .agg #[.int .i64 c.f0, .int .i64 c.f1, .int .i64 c.f2]] (by rfl) rfl rfl (by (try simp only [List.map_toArray, List.map_cons, List.map_nil]); first | done | rfl | (simp only [List.length_drop, List.length_take]; rfl)) ?_); (refine (spec_l09Less.calls q.f0 q.f1 q.f2 c.f0 c.f1 c.f2 t _ HL.out).mono ?_); (rintro e wA12 ⟨rfl, hb⟩); (refine ⟨_, rfl, ?_⟩); (have HS_ := A0_ (Sp.far HS.out hb)); clear HS; (have HS := HS_); clear HS_; clear hb
     refine hK.out _ _ (⟨pw_cell_below HS.out.below HC0.out, pw_cell_below HS.out.below HC1.out, pw_cell_below HS.out.below HC2.out, pw_cell_below HS.out.below HQ0.out, pw_cell_below HS.out.below HQ1.out, pw_cell_below HS.out.below HQ2.out⟩) (fun hHeld => ?_)
     clear hK K; (refine nm_ (some 29) ?_); (refine on_ 20 (some 30) ?_); (refine on_ 21 (some 31) ?_); (refine on_ 22 (some 32) ?_); (refine dn_ ?_)
     cases t with
     | true =>
      (have HN := A0_ (HNX.out rfl)); go_wp2; (go_roundg k1)
      case measure => omega
      case rel =>
       (rw [HW.out]); (exact ⟨i + 1, rfl, ⟨by have := HCI.out; omega, by have := HX.out; omega, HN.out⟩, HS⟩)
     | false =>
      (have HF := A0_ (HNO.out rfl)); go_wp2; go_ret; (exact ⟨by rw [HF.out]; rfl, HS.out.below⟩)
  ·(have ci0 : decide (i < l.length) = false := decide_eq_false ci); (have ci1 : (i < l.length) = False := eq_false ci); (have hi : i = l.length := by have := HX.out; omega); (have HF := A0_ ((in_eq (l.length : Int) 1 24).trans (congrArg some (solP_end l (hi ▸ HX.out.2.2)).symm))); clear ci hi
   go_wp2_with (first
    | (go_at_call 45; refine (spec_l01In.calls (l.length : Int) 1 24 (solP l) _ HF.out).mono ?_; rintro e wc_ ⟨rfl, hb_⟩; have HS_ := A0_ (Sp.far HS.out hb_.below); clear HS; have HS := HS_; clear HS_; clear hb_))
   go_ret; (exact ⟨rfl, HS.out.below⟩)
end Go.Proofs.Ytlbckkagjekhnaa.A


/- The program's isSolid answers the same plain word. No program in sight. -/
namespace Go.Proofs.Ytlbckkagjekhnaa.A
open Go.RowKit Go.Proofs.YtlbckkagjekhnaaW.PrintWords Go.Proofs.YtlbckkagjekhnaaW.PrintLast Go.Proofs.YtlbckkagjekhnaaW.PrintMore
theorem isolid_ev (l : List Cb) (h : l.length ≤ 1048576) : Ev (fun k => impl_isSolid.f k l) (solP l) := Ev.val fun k => by unfold impl_isSolid.f; rw [if_pos h]
end Go.Proofs.Ytlbckkagjekhnaa.A

/- The program's connectedCubes answers the plain word. No program in sight. -/
namespace Go.Proofs.Ytlbckkagjekhnaa.A
open Go.RowKit Go.Proofs.YtlbckkagjekhnaaW.PrintWords Go.Proofs.YtlbckkagjekhnaaW.PrintLast Go.Proofs.YtlbckkagjekhnaaW.PrintMore
set_option linter.unusedVariables false
set_option linter.unusedSimpArgs false
theorem addO_sub {l o : List Cb} (h : ∀ c ∈ o, c ∈ l) (c : Cb) : ∀ x ∈ addO l o c, x ∈ l := by
  unfold addO
  split
  case isFalse => exact h
  rename_i hb
  rw [Bool.and_eq_true, List.contains_iff_mem] at hb
  intro x hx
  rcases List.mem_append.1 hx with hx | hx
  · exact h x hx
  · rw [List.mem_singleton.1 hx]; exact hb.1
theorem expI_sub {l o : List Cb} (h : ∀ c ∈ o, c ∈ l) (c : Cb) : ∀ i, i ≤ 6 → ∀ x ∈ expI l o c i, x ∈ l
  | 0, _ => h
  | i + 1, hi => by
    rw [expI_succ l o c i (by omega)]
    exact addO_sub (expI_sub h c i (by omega)) _
theorem around_eq (c : Cb) (h : inCb c (-100) 100 = true) : impl_cubesAround.f c.f0 c.f1 c.f2 = some (stepsC.map (addC c)) := by
  rw [inCb_iff] at h
  unfold impl_cubesAround.f stepsC addC
  simp only [List.map_cons, List.map_nil]
  have w0 : ∀ x : Int, -100 ≤ x → x ≤ 100 → wrap64 (x + 0) = x := fun x h1 h2 => by rw [Int.add_zero]; exact wrap_id (by omega) (by omega)
  rw [w0 _ h.1.1 h.1.2, w0 _ h.2.1.1 h.2.1.2, w0 _ h.2.2.1 h.2.2.2]
  rfl
theorem con_in (l : List Cb) (h : l.length ≤ 1048576) (o c nb) (hnb : nb = stepsC.map (addC c)) (hf : FitO l o) (k : Int) (R : Bool) (hR : Ev (fun n => impl_connectedCubes.l0 n l (expI l o c 6) (wrap64 (k + 1))) R) :
    ∀ (j i : Nat), i + j = 6 → Ev (fun n => impl_connectedCubes.l1 n l (expI l o c i) k nb (nb.length : Int) (i : Int)) R
  | 0, i, hi => by
    have : i = 6 := by omega
    subst this
    refine Ev.step (f := fun n => impl_connectedCubes.l0 n l (expI l o c 6) (wrap64 (k + 1))) (fun n => ?_) hR
    have hl : nb.length = 6 := by rw [hnb]; rfl
    simp only [impl_connectedCubes.l1]
    rw [if_neg (by omega)]
  | j + 1, i, hi => by
    have ih := con_in l h o c nb hnb hf k R hR j (i + 1) (by omega)
    have hl : nb.length = 6 := by rw [hnb]; rfl
    have hi6 : i < 6 := by omega
    have hx : rd_T69 nb (i : Int) = addC c (cAt stepsC i) := by
      subst hnb
      have hs : i < (stepsC.map (addC c)).length := hi6
      have hs2 : i < stepsC.length := hi6
      unfold rd_T69 cAt
      rw [getD_nat _ _ i hs, List.getElem_map, List.getD_eq_getElem?_getD, List.getElem?_eq_getElem hs2]
      rfl
    have hw := wrap_succ i (by omega)
    have hsz := (FitO.exp hf c i (by omega)).len
    have hes := expI_succ l o c i hi6
    generalize addC c (cAt stepsC i) = x at hx hes
    refine Ev.step (f := fun n => (impl_Cube_111.f n l x.f0 x.f1 x.f2).bind fun t => if t = true then (impl_Cube_111.f n (expI l o c i) x.f0 x.f1 x.f2).bind fun t2 => if t2 = true then impl_connectedCubes.l1 n l (expI l o c i) k nb (nb.length : Int) ((i + 1 : Nat) : Int) else impl_connectedCubes.l1 n l (expI l o c i ++ [x]) k nb (nb.length : Int) ((i + 1 : Nat) : Int) else impl_connectedCubes.l1 n l (expI l o c i) k nb (nb.length : Int) ((i + 1 : Nat) : Int)) (fun n => ?_) (Ev.bind (contains_ev l x h) ?_)
    · simp only [impl_connectedCubes.l1, hx, hw, if_true, show (i : Int) < (nb.length : Int) from by omega, show (0 : Int) ≤ (i : Int) from by omega, show (expI l o c i).length < 5864062014805 from by omega]
    · unfold addO at hes
      cases c1 : l.contains x with
      | false =>
        rw [c1, Bool.false_and, if_neg (by simp)] at hes
        rw [hes] at ih
        exact ih
      | true =>
        refine Ev.bind (contains_ev (expI l o c i) x (by omega)) ?_
        cases c2 : (expI l o c i).contains x with
        | true =>
          rw [c1, c2, Bool.not_true, Bool.and_false, if_neg (by simp)] at hes
          rw [hes] at ih
          exact ih
        | false =>
          rw [c1, c2, Bool.not_false, Bool.and_true, if_pos rfl] at hes
          rw [hes] at ih
          exact ih
theorem con_out (l : List Cb) (h : l.length ≤ 1048576) (hr : ∀ c ∈ l, inCb c (-100) 100 = true) : ∀ (f : Nat) (o : List Cb) (k : Nat), f + k = l.length + 1 → k ≤ o.length → FitO l o → (∀ c ∈ o, c ∈ l) → Ev (fun n => impl_connectedCubes.l0 n l o (k : Int)) (decide ((bfsO l f o k).length = l.length))
  | 0, o, k, hf, hk, hft, hs => by
    have := hft.len
    omega
  | f + 1, o, k, hf, hk, hft, hs => by
    have hol := hft.len
    unfold bfsO
    by_cases c : k < o.length
    · rw [if_pos c]
      have hpr := expI_pre l o (cAt o k) k c 6 (Nat.le_refl _)
      have ih := con_out l h hr f (expI l o (cAt o k) 6) (k + 1) (by omega) (by omega) (FitO.exp hft _ 6 (Nat.le_refl _)) (expI_sub hs _ 6 (Nat.le_refl _))
      have hm : cAt o k ∈ o := by
        have : cAt o k = o[k] := by simp [cAt, List.getD_eq_getElem?_getD, c]
        rw [this]; exact List.getElem_mem _
      have hw := wrap_succ k (by omega)
      have ha := around_eq (cAt o k) (hr _ (hs _ hm))
      have hg : rd_T69 o (k : Int) = cAt o k := rfl
      have hin := con_in l h o (cAt o k) (stepsC.map (addC (cAt o k))) rfl hft (k : Int) _ (by rw [hw]; exact ih) 6 0 (by omega)
      refine Ev.step (f := fun n => impl_connectedCubes.l1 n l o (k : Int) (stepsC.map (addC (cAt o k))) ((stepsC.map (addC (cAt o k))).length : Int) 0) (fun n => ?_) hin
      simp only [impl_connectedCubes.l0, hg, ha, Option.bind_some, if_true, show (k : Int) < (o.length : Int) from by omega, show (0 : Int) ≤ (k : Int) from by omega]
    · rw [if_neg c]
      refine Ev.step (f := fun n => some (decide (o.length = l.length))) (fun n => ?_) (Ev.now _)
      simp only [impl_connectedCubes.l0]
      rw [if_neg (by omega)]
      congr 1
      rw [Bool.eq_iff_iff, beq_iff_eq, decide_eq_true_eq]
      omega
theorem icon_ev (l : List Cb) (h1 : 1 ≤ l.length) (h : l.length ≤ 1048576) (hr : ∀ c ∈ l, inCb c (-100) 100 = true) : Ev (fun k => impl_connectedCubes.f k l) (conP l) := by
  have hm : cAt l 0 ∈ l := by
    have h0 : 0 < l.length := h1
    have : cAt l 0 = l[0] := by simp [cAt, List.getD_eq_getElem?_getD, h0]
    rw [this]; exact List.getElem_mem _
  refine Ev.congr (f := fun k => impl_connectedCubes.l0 k l [cAt l 0] ((0 : Nat) : Int)) (fun k => ?_) (con_out l h hr (l.length + 1) [cAt l 0] 0 (by omega) (by simp) (FitO.start h1) (fun c hc => by rw [List.mem_singleton.1 hc]; exact hm))
  unfold impl_connectedCubes.f
  rw [if_pos (by omega)]
  rfl
theorem sol_in (l : List Cb) (h : solP l = true) : 1 ≤ l.length ∧ l.length ≤ 24 ∧ ∀ c ∈ l, inCb c (-100) 100 = true := by
  unfold solP at h
  rw [Bool.and_eq_true, Bool.and_eq_true, decide_eq_true_eq, decide_eq_true_eq, List.all_eq_true] at h
  refine ⟨h.2.1, h.2.2, fun c hc => ?_⟩
  obtain ⟨i, hi, rfl⟩ := List.mem_iff_getElem.1 hc
  have := h.1 i (List.mem_range.2 hi)
  unfold solStep at this
  rw [Bool.and_eq_true] at this
  have e : oAt l i = l[i] := by simp [oAt, List.getD_eq_getElem?_getD, hi]
  rw [← e]
  exact this.1
end Go.Proofs.Ytlbckkagjekhnaa.A

/- An assembly, part by part, in plain words. No program in sight. -/
namespace Go.Proofs.Ytlbckkagjekhnaa.A
open Go.RowKit Go.Proofs.YtlbckkagjekhnaaW.PrintWords Go.Proofs.YtlbckkagjekhnaaW.PrintLast Go.Proofs.YtlbckkagjekhnaaW.PrintMore
set_option linter.unusedVariables false
set_option linter.unusedSimpArgs false
def meetS (a b : List Cb) : Bool := a.any fun c => b.contains c
abbrev pAt (parts : List (List Cb)) (i : Nat) : List Cb := partAt parts (i : Int)
def rowOk (parts : List (List Cb)) (i : Nat) : Bool := solP (pAt parts i) && (conP (pAt parts i) && ((List.range (pAt parts i).length).all (fun c => inCb (cAt (pAt parts i) c) 0 7) && (List.range i).all fun k => !meetS (pAt parts i) (pAt parts k)))
theorem pAt_mem (parts : List (List Cb)) (i : Nat) (h : i < parts.length) : pAt parts i ∈ parts := by
  have : pAt parts i = parts[i] := by unfold pAt partAt; simp [h]
  rw [this]; exact List.getElem_mem _
/-- An assembly, as the statement looks at it. -/
def asmS (parts : List (List Cb)) : Bool := (decide (2 ≤ parts.length) && decide (parts.length ≤ 4)) && (List.range parts.length).all (rowOk parts)
theorem range_no (q : Nat → Bool) (n j : Nat) (hj : j < n) (h : q j = false) : (List.range n).all q = false := by
  rw [Bool.eq_false_iff]
  intro hc
  rw [List.all_eq_true] at hc
  have := hc j (List.mem_range.2 hj)
  rw [h] at this
  cases this
theorem range_next (q : Nat → Bool) (j : Nat) (h : (List.range j).all q = true) (h2 : q j = true) : (List.range (j + 1)).all q = true := by
  rw [List.range_succ, List.all_append, h]
  simp [h2]
theorem asmS_no (parts : List (List Cb)) (i : Nat) (hi : i < parts.length) (h : rowOk parts i = false) : asmS parts = false := by
  unfold asmS
  rw [range_no _ _ i hi h, Bool.and_false]
theorem asmS_end (parts : List (List Cb)) (hn : inR (parts.length : Int) 2 4 = true) (h : (List.range parts.length).all (rowOk parts) = true) : asmS parts = true := by
  unfold inR at hn
  rw [Bool.and_eq_true, decide_eq_true_eq, decide_eq_true_eq] at hn
  unfold asmS
  rw [h, decide_eq_true (show 2 ≤ parts.length by omega), decide_eq_true (show parts.length ≤ 4 by omega)]
  rfl
theorem asmS_few (parts : List (List Cb)) (hn : inR (parts.length : Int) 2 4 = false) : asmS parts = false := by
  unfold asmS
  have : (decide (2 ≤ parts.length) && decide (parts.length ≤ 4)) = false := by
    rw [← hn]
    unfold inR
    rw [Bool.eq_iff_iff]
    simp only [Bool.and_eq_true, decide_eq_true_eq]
    omega
  rw [this, Bool.false_and]
end Go.Proofs.Ytlbckkagjekhnaa.A

namespace Go.Proofs.Ytlbckkagjekhnaa.A
open Go.RowKit Go.Proofs.YtlbckkagjekhnaaW.PrintWords Go.Proofs.YtlbckkagjekhnaaW.PrintLast Go.Proofs.YtlbckkagjekhnaaW.PrintMore
attribute [local go_sem] max2_int min2_int max_two min_two max_three min_three max_four min_four   -- for this text's walks alone
set_option linter.unusedVariables false
set_option linter.unusedSimpArgs false
def spec_l09Steps.f  : Option ((List (S69))) := some (([(⟨0, 0, (-1)⟩ : S69), (⟨0, (-1), 0⟩ : S69), (⟨(-1), 0, 0⟩ : S69), (⟨1, 0, 0⟩ : S69), (⟨0, 1, 0⟩ : S69), (⟨0, 0, 1⟩ : S69)] : List (S69)))
set_option maxHeartbeats 8000000 in
set_option maxRecDepth 100000 in
theorem spec_l09Steps.calls  (r : List (S69)) (w : World) (h : spec_l09Steps.f  = some r) :
    Calls Try.prog 101 #[] w fun e w' => ∃ v0_ : Value, e = .returned (v0_) ∧ Kd.R k69 69 w' w.heap.size (fun _ => True) v0_ r ∧ Below w.heap.size w w' := by
 (have hu69 := Try.underlying69); (have HB := A0_ (Below.refl w.heap.size w)); (have H : (some (([(⟨0, 0, (-1)⟩ : S69), (⟨0, (-1), 0⟩ : S69), (⟨(-1), 0, 0⟩ : S69), (⟨1, 0, 0⟩ : S69), (⟨0, 1, 0⟩ : S69), (⟨0, 0, 1⟩ : S69)] : List (S69)))) = some r := h); clear h; (obtain ⟨y122, hy122⟩ : ∃ y_ : List (S69), y_ = (([(⟨0, 0, (-1)⟩ : S69), (⟨0, (-1), 0⟩ : S69), (⟨(-1), 0, 0⟩ : S69), (⟨1, 0, 0⟩ : S69), (⟨0, 1, 0⟩ : S69), (⟨0, 0, 1⟩ : S69)] : List (S69))) := ⟨_, rfl⟩); (replace H : (some y122) = some r := by first | (rw [hy122]; with_reducible exact H) | (have H2_ := (Option.bind_some _ _).symm.trans H; rw [hy122]; with_reducible exact H2_) | (have H2_ := (Option.bind_some _ _).symm.trans H; with_reducible exact H2_) | with_reducible exact H | (rw [hy122]; exact H) | exact H); (have Ny122 := A0_ hy122); clear hy122; (obtain rfl := Option.some.inj H); (go_enter Try.func101, Try.ntmps101)
 go_wp2_with (first | ((with_reducible refine gate_dst (N := 7) rfl ?_); refine Kd.R_lit k69 _ 69 ?hg (N := 7) ?hd (xs := ([(⟨0, 0, (-1)⟩ : S69), (⟨0, (-1), 0⟩ : S69), (⟨(-1), 0, 0⟩ : S69), (⟨1, 0, 0⟩ : S69), (⟨0, 1, 0⟩ : S69), (⟨0, 0, 1⟩ : S69)] : List (S69))) (inner := [.int .i64 0, .int .i64 0, .int .i64 (-1), .int .i64 0, .int .i64 (-1), .int .i64 0, .int .i64 (-1), .int .i64 0, .int .i64 0, .int .i64 1, .int .i64 0, .int .i64 0, .int .i64 0, .int .i64 1, .int .i64 0, .int .i64 0, .int .i64 0, .int .i64 1]) (ok := fun _ => True) (okp := fun _ => True) ?hr ?hp (fun _ hk => hk) trivial (Below.refl _ _) (Nat.le_refl _) (by simp) ?_; (case hd => rfl); (case hg => rfl); (case hr => first | (go_simp; done) | (go_simp; rfl)); (case hp => exact (Reps.c3 (show Kd.M k69 _ _ _ (⟨0, 0, (-1)⟩ : S69) [.int .i64 0, .int .i64 0, .int .i64 (-1)] from (k69_mkM _ _ _ (⟨0, 0, (-1)⟩ : S69) )) (Reps.c3 (show Kd.M k69 _ _ _ (⟨0, (-1), 0⟩ : S69) [.int .i64 0, .int .i64 (-1), .int .i64 0] from (k69_mkM _ _ _ (⟨0, (-1), 0⟩ : S69) )) (Reps.c3 (show Kd.M k69 _ _ _ (⟨(-1), 0, 0⟩ : S69) [.int .i64 (-1), .int .i64 0, .int .i64 0] from (k69_mkM _ _ _ (⟨(-1), 0, 0⟩ : S69) )) (Reps.c3 (show Kd.M k69 _ _ _ (⟨1, 0, 0⟩ : S69) [.int .i64 1, .int .i64 0, .int .i64 0] from (k69_mkM _ _ _ (⟨1, 0, 0⟩ : S69) )) (Reps.c3 (show Kd.M k69 _ _ _ (⟨0, 1, 0⟩ : S69) [.int .i64 0, .int .i64 1, .int .i64 0] from (k69_mkM _ _ _ (⟨0, 1, 0⟩ : S69) )) (Reps.c3 (show Kd.M k69 _ _ _ (⟨0, 0, 1⟩ : S69) [.int .i64 0, .int .i64 0, .int .i64 1] from (k69_mkM _ _ _ (⟨0, 0, 1⟩ : S69) )) (Reps.none _ _)))))))); intro v123 w1 ho2 hb hg_ hnew_; clear hg_ hnew_; (first | rw [← Ny122.out] at ho2 | (simp only [Int.reduceToNat] at ho2; rw [← Ny122.out] at ho2)); have n0_ := A0_ (Kd.R_lower ho2 (below_size (by repeat (first | (with_reducible first | exact HB.out | apply ba_ | apply bn_ | apply bd_) | exact HB.out)))); have n1_ := A0_ (below_step (by repeat (first | (with_reducible first | exact HB.out | apply ba_ | apply bn_ | apply bd_) | exact HB.out)) hb); clear HB; have HO124 := n0_; have HB := n1_; clear n0_ n1_; clear hb ho2))
 go_ret; (exact ⟨_, by first | rfl | (simp [errW_none, errW_some] <;> rfl) | (simp [*, errW_none, errW_some] <;> rfl), by (with_reducible repeat (first | apply Ra_ | apply Rn_ | apply Rd_)); exact HO124.out, by repeat (first | (with_reducible first | exact HB.out | apply ba_ | apply bn_ | apply bd_) | exact HB.out)⟩)
end Go.Proofs.Ytlbckkagjekhnaa.A

/- HAND spec.l09Connected (spec.l09Connected) walked over separate resources; it stands in the place of a printed text. -/
namespace Go.Proofs.Ytlbckkagjekhnaa.A
open Go.RowKit Go.Proofs.YtlbckkagjekhnaaW.PrintWords Go.Proofs.YtlbckkagjekhnaaW.PrintLast Go.Proofs.YtlbckkagjekhnaaW.PrintMore
set_option linter.unusedVariables false
set_option linter.unusedSimpArgs false
theorem Sp.cbCells {w0 w : World} {rs : List Res} {i base n c : Nat} {ad : Addr} {xs : List Cb} (h : Sp w0 rs w) (hi : rs[i]? = some (Res.row kC 69 base (.slice (some ad) n c) xs)) (k : Nat) (hk : k < xs.length) :
    w.cell? (ad.add (k * 3)) = some (.int .i64 (cAt xs k).f0) ∧ w.cell? ⟨(ad.add (k * 3)).block, (ad.add (k * 3)).off + 1, none⟩ = some (.int .i64 (cAt xs k).f1) ∧ w.cell? ⟨(ad.add (k * 3)).block, (ad.add (k * 3)).off + 2, none⟩ = some (.int .i64 (cAt xs k).f2) := by
 (obtain ⟨ad2, e, h0, h1, h2⟩ := at_T69 (Sp.reads h hi).2.2 (k : Int) (by omega) (by omega)); (injection e with e); subst e; (exact ⟨h0, h1, h2⟩)
def spec_l09Connected.f (k : Nat) (l : List Cb) : Option Bool := if 1 ≤ l.length ∧ l.length ≤ 1048576 then some (conP l) else none
theorem sindex_at (l : List Cb) (x : Cb) (h : l.length ≤ 1048576) : ∃ (K : Nat) (r : Int), decide (r ≥ 0) = l.contains x ∧ spec_l09Index.f K l x.f0 x.f1 x.f2 = some r := by
 (obtain ⟨r, h1, h2⟩ := sindex_ev l x h); (obtain ⟨K, hK⟩ := h2.rounds); (exact ⟨K, r, h1, hK⟩)
def conF.T8 : Bool × List (List Nat × List Nat) := (true, [([], []), ([], []), ([0, 1], [0, 1]), ([2], [2]), ([], []), ([], []), ([4, 5], [4, 5]), ([6], [6]), ([3, 7, 4], [3, 7]), ([], []), ([9, 8, 8, 0, 1, 2, 3, 4, 5, 6, 7, 8, 9], [8, 9])])
def conF.B8 : List Nat := [0, 0, 3, 7, 0, 0, 48, 112, 255, 0, 1023]
theorem conF.tab8 : rtab .any (opsOf Try.f77 8) = conF.T8 := by kernel_rfl
theorem conF.bits8 : waitsOk conF.T8.2 conF.B8 = true := by kernel_rfl
set_option maxHeartbeats 4000000 in
set_option maxRecDepth 100000 in
theorem spec_l09Connected.calls (k : Nat) (A0 : Option Addr) (c0 : Nat) (l0 : List Cb) (r : Bool) (w : World) (hr0 : Kd.C k69 w A0 l0.length l0) (hc0 : l0.length ≤ c0) (h : spec_l09Connected.f k l0 = some r) :
    Calls Try.prog 77 #[.slice A0 l0.length c0] w fun e w' => e = .returned (.bool r) ∧ Below w.heap.size w w' := by
 (have hu69 := Try.underlying69); (unfold spec_l09Connected.f at h); (split at h)
 case isFalse => cases h
 (rename_i hz); (have HRR := A0_ (show conP l0 = r from Option.some.inj h)); (have HR0 := A0_ hr0); (have HC0 := A0_ hc0); (have HZ := A0_ hz)
 have HIX := A0_ (fun (l : List Cb) (x : Cb) (hl : l.length ≤ 1048576) => sindex_at l x hl)
 (have HS := A0_ (Sp.start w)); (have HST := A0_ (FitO.start hz.1)); clear hr0 hc0 hz h; (obtain ⟨ad0, e0, hx0, hx1, hx2⟩ := at_T69 HR0.out 0 (by omega) (by have := HZ.out.1; omega)); subst e0; (rw [show rd_T69 l0 0 = cAt l0 0 from rfl] at hx0 hx1 hx2); (rw [show (0 : Int).toNat * 3 = 0 from rfl, Addr.add_zero'] at hx0 hx1 hx2); (have q0 : (0 < l0.length) = True := eq_true (by have := HZ.out.1; omega)); (have q1 : ((0 : Int) < (l0.length : Int)) = True := eq_true (by have := HZ.out.1; omega)); (obtain ⟨cf, hcf⟩ : ∃ cf, cf = cAt l0 0 := ⟨_, rfl⟩); (rw [← hcf] at hx0 hx1 hx2 HST); (have HCF := A0_ hcf); clear hcf; (rw [← HRR.out]); clear HRR; (have HFIN := A0_ (show conP l0 = decide ((bfsO l0 (l0.length + 1 - 0) [cf] 0).length = l0.length) by rw [HCF.out]; rfl)); (go_enter Try.func77, Try.ntmps77)
 go_wp2_with (first
  | ((with_reducible refine gate_dst (N := 10) rfl ?_); refine Kd.R_lit kC _ 69 ?hg (N := 10) ?hd (xs := [cf]) (inner := [.int .i64 cf.f0, .int .i64 cf.f1, .int .i64 cf.f2]) (ok := fun _ => True) (okp := fun _ => True) ?hr ?hp (fun _ hk => hk) trivial (Below.refl _ _) (Nat.le_refl _) (by simp) ?_; (case hd => rfl); (case hg => rfl); (case hr => first | (go_simp; done) | (go_simp; rfl)); (case hp => exact (Reps.c3 (show Kd.M kC _ _ _ cf [.int .i64 cf.f0, .int .i64 cf.f1, .int .i64 cf.f2] from k69_mkM _ _ _ cf) (Reps.none _ _))); intro vl_ wl_ ho_ hb_ hg_ hn_; clear hg_ hn_; have HS_ := A0_ (Sp.made' HS.out hb_ ho_); clear HS; have HS := HS_; clear HS_; clear ho_ hb_; obtain ⟨Al, cl, ev_⟩ := Sp.slice HS.out (i := 0) rfl; subst ev_; clear hx0 hx1 hx2))
 go_loopg [3, 4] (l0.length + 2) (fun kq v3 v4 w' => ∃ (k : Nat) (o : List Cb) (A : Option Addr) (ca : Nat), v4 = .int .i64 (k : Int) ∧ v3 = .slice A o.length ca ∧ Aside0 (k ≤ o.length ∧ FitO l0 o ∧ kq + k = l0.length + 2) ∧ Aside0 (conP l0 = decide ((bfsO l0 (l0.length + 1 - k) o k).length = l0.length)) ∧ Aside0 (Sp w ([Res.row kC 69 w.heap.size (.slice A o.length ca) o]) w'))
 case atStart => exact ⟨0, [cf], Al, cl, rfl, rfl, ⟨by simp, HST.out, by omega⟩, HFIN, HS⟩
 case round =>
  clear HS HFIN HST; (obtain ⟨k, o, A, ca, rfl, rfl, HX, HFIN, HS⟩ := hrel); (obtain ⟨k1, rfl⟩ : ∃ k1, gk = k1 + 1 := ⟨gk - 1, by have := HX.out; have := HX.out.2.1.len; omega⟩); (by_cases ck : k < o.length)
  ·(have ck0 : decide (k < o.length) = true := decide_eq_true ck); (have HW := A0_ (wrap_succ k (by have := HX.out.2.1.len; have := HZ.out.2; omega))); (have HPR := A0_ (expI_pre l0 o (cAt o k) k ck))
   have HFT := A0_ (fun i hi => FitO.exp HX.out.2.1 (cAt o k) i hi)
   have HNX := A0_ (show bfsO l0 (l0.length + 1 - k) o k = bfsO l0 (l0.length + 1 - (k + 1)) (expI l0 o (cAt o k) 6) (k + 1) by
    (have h1 := HX.out.2.1.len); (rw [show l0.length + 1 - k = (l0.length + 1 - (k + 1)) + 1 from by omega]); (exact if_pos ck))
   (obtain ⟨c, hc⟩ : ∃ c, c = cAt o k := ⟨_, rfl⟩); (rw [← hc] at HPR HFT HNX); clear ck hc; go_wp2
   go_loopg [3, 5] 7 (fun kq v3 v5 w' => ∃ (i : Nat) (A : Option Addr) (ca : Nat), v5 = .int .i64 (i : Int) ∧ v3 = .slice A (expI l0 o c i).length ca ∧ Aside0 (i ≤ 6 ∧ kq + i = 7) ∧ Aside0 (Sp w ([Res.row kC 69 w.heap.size (.slice A (expI l0 o c i).length ca) (expI l0 o c i)]) w'))
   case atStart => exact ⟨0, A, ca, rfl, rfl, ⟨by omega, by omega⟩, HS⟩
   case round =>
    clear HS; (obtain ⟨i, A, ca, rfl, rfl, HY, HS⟩ := hrel); (obtain ⟨k2, rfl⟩ : ∃ k2, gk = k2 + 1 := ⟨gk - 1, by have := HY.out; omega⟩); (by_cases ci : i < 6)
    ·(have ci0 : decide (i < 6) = true := decide_eq_true ci); (have ci1 : (i < 6) = True := eq_true ci); (have ci2 : decide ((i : Int) < 6) = true := decide_eq_true (by omega)); (have ci3 : ((i : Int) < 6) = True := eq_true (by omega)); (have HI6 := A0_ ci); (have HWI := A0_ (wrap_succ i (by omega))); (have HPI := HPR.out i (by omega)); (have HKX := A0_ HPI.1); (have HOA := A0_ HPI.2); (have HFI := A0_ (HFT.out i (by omega))); (have HES := A0_ (expI_succ l0 o c i ci)); (obtain ⟨si, hsi⟩ : ∃ si, si = cAt stepsC i := ⟨_, rfl⟩); (have HSI0 := A0_ hsi.symm); (rw [← hsi] at HES); clear hsi HPI ci; (obtain ⟨x, hx⟩ : ∃ x, x = addC c si := ⟨_, rfl⟩); (have q0 : (0 ≤ (k : Int)) = True := eq_true (by omega)); (have q1 : ((k : Int) < ((expI l0 o c i).length : Int)) = True := eq_true (by have := HKX.out; omega)); (have q2 : (k < (expI l0 o c i).length) = True := eq_true HKX.out); (have q3 : (0 ≤ (i : Int)) = True := eq_true (by omega)); (have q4 : ((i : Int) < ((stepsC).length : Int)) = True := eq_true (by have := HI6.out; rw [show (stepsC).length = 6 from rfl]; omega)); (have q5 : (i < (stepsC).length) = True := eq_true HI6.out)
     obtain ⟨ado, hado⟩ : ∃ ado, A = some ado := by
      (obtain ⟨ad2, e, _⟩ := at_T69 (Sp.reads HS.out (i := 0) rfl).2.2 (k : Int) (by omega) (by have := HKX.out; omega)); (exact ⟨ad2, e⟩)
     subst hado
     (have HS_ := A0_ (show Sp w ([Res.row kC 69 w.heap.size (.slice (some ado) (expI l0 o c i).length ca) (expI l0 o c i)] ++ ([] : List Res)) wr.drew from Sp.drew HS.out)); clear HS; (have HS := HS_); clear HS_; go_wp2
     refine start_ (n := 11) (S := fun w' => w'.cell? (ado.add (k * 3)) = some (.int .i64 c.f0) ∧ w'.cell? ⟨(ado.add (k * 3)).block, (ado.add (k * 3)).off + 1, none⟩ = some (.int .i64 c.f1) ∧ w'.cell? ⟨(ado.add (k * 3)).block, (ado.add (k * 3)).off + 2, none⟩ = some (.int .i64 c.f2)) (ds := []) #[ff,ff,ff,ff,ff,ff,ff,ff,ff,ff,ff] (by kernel_rfl) rfl rfl (⟨((HOA.out ▸ Sp.cbCells HS.out (i := 0) rfl k HKX.out).1), ((HOA.out ▸ Sp.cbCells HS.out (i := 0) rfl k HKX.out).2.1), ((HOA.out ▸ Sp.cbCells HS.out (i := 0) rfl k HKX.out).2.2)⟩) (fun hHeld => ?_)
     refine with_tabW conF.tab8 conF.bits8 (fun HT_ HW_ => ?_)
     (generalize wr.drew = wD at HS hHeld ⊢); (refine on_ 0 (some 21) ?_); (refine on_ 1 (some 22) ?_); (refine on_ 2 (some 23) ?_); (refine tk_ 3 (some 24) ?_); (refine on_ 5 (some 26) ?_)
     refine o2_ 4 9 (some 25) (some 6) (fun K hK => ?_) (fun K hK => ?_)
     ·(refine goes_ Try.func101 (by kernel_rfl) rfl #[] (by rfl) rfl rfl (by (try simp only [List.map_toArray, List.map_cons, List.map_nil]); first | done | rfl | (simp only [List.length_drop, List.length_take]; rfl)) ?_); (refine (spec_l09Steps.calls stepsC _ rfl).mono ?_); (rintro e wA11 ⟨vA11, rfl, ho, hb⟩); (refine ⟨_, rfl, ?_⟩); (have HS_ := A0_ (Sp.made' HS.out hb ho)); clear HS; (have HS := HS_); clear HS_; clear hb ho; (obtain ⟨AA11, cA11, rfl⟩ := Sp.slice HS.out (i := 0) rfl); (obtain ⟨ads, es_, _⟩ := at_T69 (Sp.reads HS.out (i := 0) rfl).2.2 (0 : Int) (by omega) (by decide)); subst es_
      refine hK.out _ _ (⟨((HOA.out ▸ Sp.cbCells HS.out (i := 1) rfl k HKX.out).1), ((HOA.out ▸ Sp.cbCells HS.out (i := 1) rfl k HKX.out).2.1), ((HOA.out ▸ Sp.cbCells HS.out (i := 1) rfl k HKX.out).2.2)⟩) (fun hHeld => ?_)
      clear hK K; (refine nm_ (some 25) ?_); (refine on_ 6 (some 27) ?_)
      refine o2_ 7 9 (some 28) (some 6) (fun K hK => ?_) (fun K hK => ?_)
      ·(obtain ⟨hs0, hs1, hs2⟩ := Sp.cbCells HS.out (i := 0) rfl i HI6.out); (rw [HSI0.out] at hs0 hs1 hs2); (refine event_step (v := .agg #[.int .i64 si.f0, .int .i64 si.f1, .int .i64 si.f2]) (w1 := wA11) (by rfl) (by first | (go_simp; done) | (go_simp; rfl)) ?_); clear hs0 hs1 hs2
       refine hK.out _ _ (⟨((HOA.out ▸ Sp.cbCells HS.out (i := 1) rfl k HKX.out).1), ((HOA.out ▸ Sp.cbCells HS.out (i := 1) rfl k HKX.out).2.1), ((HOA.out ▸ Sp.cbCells HS.out (i := 1) rfl k HKX.out).2.2)⟩) (fun hHeld => ?_)
       clear hK K; (refine nm_ (some 28) ?_)
       refine o2_ 8 9 (some 29) (some 6) (fun K hK => ?_) (fun K hK => ?_)
       ·(refine goes_ Try.func96 (by kernel_rfl) rfl #[.agg #[.int .i64 c.f0, .int .i64 c.f1, .int .i64 c.f2], .agg #[.int .i64 si.f0, .int .i64 si.f1, .int .i64 si.f2]] (by rfl) rfl rfl (by (try simp only [List.map_toArray, List.map_cons, List.map_nil]); first | done | rfl | (simp only [List.length_drop, List.length_take]; rfl)) ?_); (refine (spec_l09Add.calls c.f0 c.f1 c.f2 si.f0 si.f1 si.f2 (addC c si).f0 (addC c si).f1 (addC c si).f2 _ rfl).mono ?_); (rintro e wA12 ⟨rfl, hb⟩); (refine ⟨_, rfl, ?_⟩); (have HS_ := A0_ (Sp.far HS.out hb)); clear HS; (have HS := HS_); clear HS_; clear hb
        refine hK.out _ _ (⟨((HOA.out ▸ Sp.cbCells HS.out (i := 1) rfl k HKX.out).1), ((HOA.out ▸ Sp.cbCells HS.out (i := 1) rfl k HKX.out).2.1), ((HOA.out ▸ Sp.cbCells HS.out (i := 1) rfl k HKX.out).2.2)⟩) (fun hHeld => ?_)
        clear hK K; (refine nm_ (some 29) ?_)
        refine o1_ 9 (some 6) (fun K hK => ?_)
        (refine event_step (v := .pointer (some ⟨wA12.heap.size, 0, none⟩)) (w1 := wA12.alloc (.cells #[.int .i64 0, .int .i64 0, .int .i64 0] 69)) (by rfl) (by first | (go_simp; done) | (go_simp; rfl)) ?_); (obtain ⟨gx, hg_⟩ : ∃ g_, g_ = (wA12).heap.size := ⟨_, rfl⟩); (obtain ⟨wB13, hw_⟩ : ∃ w_, w_ = World.alloc wA12 (.cells #[.int .i64 0, .int .i64 0, .int .i64 0] 69) := ⟨_, rfl⟩); (rw [← hw_, ← hg_]); (have HS_ := A0_ (Sp.box HS.out #[.int .i64 0, .int .i64 0, .int .i64 0] 69)); (rw [← hw_, ← hg_] at HS_); clear HS; (have HS := HS_); clear HS_ hw_ hg_
        refine hK.out _ _ (⟨((HOA.out ▸ Sp.cbCells HS.out (i := 2) rfl k HKX.out).1), ((HOA.out ▸ Sp.cbCells HS.out (i := 2) rfl k HKX.out).2.1), ((HOA.out ▸ Sp.cbCells HS.out (i := 2) rfl k HKX.out).2.2)⟩) (fun hHeld => ?_)
        clear hK K; (refine nm_ (some 6) ?_)
        refine o1_ 10 none (fun K hK => ?_)
        (refine skip_ (w1 := wB13.setCells gx 0 (#[.int .i64 (addC c si).f0, .int .i64 (addC c si).f1, .int .i64 (addC c si).f2] : Array Value).toList) (by rfl) rfl (exec_store (v := .pointer (some ⟨gx, 0, none⟩)) (u := .agg #[.int .i64 (addC c si).f0, .int .i64 (addC c si).f1, .int .i64 (addC c si).f2]) rfl (by first | rfl | (go_simp; done) | (go_simp; rfl)) (by first | rfl | (go_simp; done) | (go_simp; rfl)) (Sp.blkStore HS.out (i := 0) rfl (.agg #[.int .i64 (addC c si).f0, .int .i64 (addC c si).f1, .int .i64 (addC c si).f2]) (#[.int .i64 (addC c si).f0, .int .i64 (addC c si).f1, .int .i64 (addC c si).f2]) rfl rfl (by kernel_rfl) (by first | (simp; done) | (simp [Value.oneCell']; done) | (simp; exact ⟨rfl, rfl, rfl⟩)))) ?_); (obtain ⟨wS14, hw_⟩ : ∃ w_, w_ = wB13.setCells gx 0 (#[.int .i64 (addC c si).f0, .int .i64 (addC c si).f1, .int .i64 (addC c si).f2] : Array Value).toList := ⟨_, rfl⟩); (rw [← hw_]); (have HS_ := A0_ (Sp.blkAll HS.out (i := 0) rfl (#[.int .i64 (addC c si).f0, .int .i64 (addC c si).f1, .int .i64 (addC c si).f2]) rfl)); (rw [← hw_] at HS_); clear HS; (have HS := HS_); clear HS_ hw_
        refine hK.out _ _ (⟨((HOA.out ▸ Sp.cbCells HS.out (i := 2) rfl k HKX.out).1), ((HOA.out ▸ Sp.cbCells HS.out (i := 2) rfl k HKX.out).2.1), ((HOA.out ▸ Sp.cbCells HS.out (i := 2) rfl k HKX.out).2.2)⟩) (fun hHeld => ?_)
        clear hK K; (refine dn_ ?_); (have HS_ := A0_ (Sp.arr (pre := [Res.blk gx #[.int .i64 (addC c si).f0, .int .i64 (addC c si).f1, .int .i64 (addC c si).f2] 69, Res.row kC 69 w.heap.size (.slice (some ads) (stepsC).length cA11) (stepsC), Res.row kC 69 w.heap.size (.slice (some ado) (expI l0 o c i).length ca) (expI l0 o c i)]) (pre' := [Res.blk gx #[.int .i64 (addC c si).f0, .int .i64 (addC c si).f1, .int .i64 (addC c si).f2] 69, Res.row kC 69 w.heap.size (.slice (some ado) (expI l0 o c i).length ca) (expI l0 o c i), Res.row kC 69 w.heap.size (.slice (some ads) (stepsC).length cA11) (stepsC)]) (rest := ([] : List Res)) [0, 2, 1] HS.out rfl rfl)); clear HS; (have HS := HS_); clear HS_; (rw [show addC c si = x from hx.symm] at HS); (have HX6 := A0_ hx); clear hx; (have hx0 := (blk_cell (Sp.blk HS.out (i := 0) rfl).1 0).trans rfl); (have hx1 := (blk_cell (Sp.blk HS.out (i := 0) rfl).1 1).trans rfl); (have hx2 := (blk_cell (Sp.blk HS.out (i := 0) rfl).1 2).trans rfl); (obtain ⟨Ka, ra, ha, hKa⟩ := HIX.out l0 x HZ.out.2); (have HKA := A0_ hKa)
        cases c1 : l0.contains x with
        | false =>
         (rw [c1] at ha); (have n0_ : decide (0 ≤ ra) = false := ha); (have n1_ : (0 ≤ ra) = False := eq_false (of_decide_eq_false ha)); (have HN := A0_ (show expI l0 o c (i + 1) = expI l0 o c i by rw [HES.out, ← HX6.out]; unfold addO; rw [c1, Bool.false_and, if_neg (by simp)])); clear c1 ha
         go_wp2_with (first
          | (go_at_call 102; refine (spec_l09Index.calls Ka (some ad0) c0 l0 x.f0 x.f1 x.f2 ra _ (Kd.C_below HR0.out HS.out.below) HC0.out HKA.out).mono ?_; rintro e wc_ ⟨rfl, hd_⟩; have HS_ := A0_ (Sp.far HS.out hd_); clear HS; have HS := HS_; clear HS_; clear hd_ hx0 hx1 hx2 HKA; have hx0 := (blk_cell (Sp.blk HS.out (i := 0) rfl).1 0).trans rfl; have hx1 := (blk_cell (Sp.blk HS.out (i := 0) rfl).1 1).trans rfl; have hx2 := (blk_cell (Sp.blk HS.out (i := 0) rfl).1 2).trans rfl))
         (have HS_ := A0_ (show Sp w [Res.row kC 69 w.heap.size (.slice (some ado) (expI l0 o c i).length ca) (expI l0 o c i)] _ from Sp.tail (Sp.out HS.out 2))); clear HS; (have HS := HS_); clear HS_; (go_roundg k2)
         case measure => omega
         case rel =>
          (rw [HWI.out]); (exact ⟨i + 1, some ado, ca, rfl, by rw [HN.out], ⟨by have := HI6.out; omega, by have := HY.out; omega⟩, ⟨by rw [HN.out]; exact HS.out⟩⟩)
        | true =>
         (rw [c1] at ha); (have n0_ : decide (0 ≤ ra) = true := ha); (have n1_ : (0 ≤ ra) = True := eq_true (of_decide_eq_true ha)); (obtain ⟨Kb, rb, hb, hKb⟩ := HIX.out (expI l0 o c i) x (by have := HFI.out.len; have := HZ.out.2; omega)); (have HKB := A0_ hKb); clear ha hKb
         cases c2 : (expI l0 o c i).contains x with
         | true =>
          (rw [c2] at hb); (have m0_ : decide (rb < 0) = false := decide_eq_false (by have := of_decide_eq_true hb; omega)); (have m1_ : (rb < 0) = False := eq_false (by have := of_decide_eq_true hb; omega)); (have HN := A0_ (show expI l0 o c (i + 1) = expI l0 o c i by rw [HES.out, ← HX6.out]; unfold addO; rw [c1, c2, Bool.not_true, Bool.and_false, if_neg (by simp)])); clear c1 c2 hb
          go_wp2_with (first
           | (go_at_call 102; refine (spec_l09Index.calls Ka (some ad0) c0 l0 x.f0 x.f1 x.f2 ra _ (Kd.C_below HR0.out HS.out.below) HC0.out HKA.out).mono ?_; rintro e wc_ ⟨rfl, hd_⟩; have HS_ := A0_ (Sp.far HS.out hd_); clear HS; have HS := HS_; clear HS_; clear hd_ hx0 hx1 hx2 HKA; have hx0 := (blk_cell (Sp.blk HS.out (i := 0) rfl).1 0).trans rfl; have hx1 := (blk_cell (Sp.blk HS.out (i := 0) rfl).1 1).trans rfl; have hx2 := (blk_cell (Sp.blk HS.out (i := 0) rfl).1 2).trans rfl)
           | (go_at_call 102; refine (spec_l09Index.calls Kb (some ado) ca (expI l0 o c i) x.f0 x.f1 x.f2 rb _ (Sp.reads HS.out (i := 1) rfl).2.2 (Sp.reads HS.out (i := 1) rfl).2.1 HKB.out).mono ?_; rintro e wc_ ⟨rfl, hd_⟩; have HS_ := A0_ (Sp.far HS.out hd_); clear HS; have HS := HS_; clear HS_; clear hd_ hx0 hx1 hx2 HKB; have hx0 := (blk_cell (Sp.blk HS.out (i := 0) rfl).1 0).trans rfl; have hx1 := (blk_cell (Sp.blk HS.out (i := 0) rfl).1 1).trans rfl; have hx2 := (blk_cell (Sp.blk HS.out (i := 0) rfl).1 2).trans rfl))
          (have HS_ := A0_ (show Sp w [Res.row kC 69 w.heap.size (.slice (some ado) (expI l0 o c i).length ca) (expI l0 o c i)] _ from Sp.tail (Sp.out HS.out 2))); clear HS; (have HS := HS_); clear HS_; (go_roundg k2)
          case measure => omega
          case rel =>
           (rw [HWI.out]); (exact ⟨i + 1, some ado, ca, rfl, by rw [HN.out], ⟨by have := HI6.out; omega, by have := HY.out; omega⟩, ⟨by rw [HN.out]; exact HS.out⟩⟩)
         | false =>
          (rw [c2] at hb); (have m0_ : decide (rb < 0) = true := decide_eq_true (by have := of_decide_eq_false hb; omega)); (have m1_ : (rb < 0) = True := eq_true (by have := of_decide_eq_false hb; omega)); (have HN := A0_ (show expI l0 o c (i + 1) = expI l0 o c i ++ [x] by rw [HES.out, ← HX6.out]; unfold addO; rw [c1, c2, Bool.not_false, Bool.and_true, if_pos rfl])); clear c1 c2 hb; (have HS_ := A0_ (show Sp w [Res.blk gx #[.int .i64 x.f0, .int .i64 x.f1, .int .i64 x.f2] 69, Res.row kC 69 w.heap.size (.slice (some ado) (expI l0 o c i).length ca) (expI l0 o c i)] _ from Sp.out HS.out 2)); clear HS; (have HS := HS_); clear HS_
          go_wp2_with (first
           | (go_at_call 102; refine (spec_l09Index.calls Ka (some ad0) c0 l0 x.f0 x.f1 x.f2 ra _ (Kd.C_below HR0.out HS.out.below) HC0.out HKA.out).mono ?_; rintro e wc_ ⟨rfl, hd_⟩; have HS_ := A0_ (Sp.far HS.out hd_); clear HS; have HS := HS_; clear HS_; clear hd_ hx0 hx1 hx2 HKA; have hx0 := (blk_cell (Sp.blk HS.out (i := 0) rfl).1 0).trans rfl; have hx1 := (blk_cell (Sp.blk HS.out (i := 0) rfl).1 1).trans rfl; have hx2 := (blk_cell (Sp.blk HS.out (i := 0) rfl).1 2).trans rfl)
           | (go_at_call 102; refine (spec_l09Index.calls Kb (some ado) ca (expI l0 o c i) x.f0 x.f1 x.f2 rb _ (Sp.reads HS.out (i := 1) rfl).2.2 (Sp.reads HS.out (i := 1) rfl).2.1 HKB.out).mono ?_; rintro e wc_ ⟨rfl, hd_⟩; have HS_ := A0_ (Sp.far HS.out hd_); clear HS; have HS := HS_; clear HS_; clear hd_ hx0 hx1 hx2 HKB; have hx0 := (blk_cell (Sp.blk HS.out (i := 0) rfl).1 0).trans rfl; have hx1 := (blk_cell (Sp.blk HS.out (i := 0) rfl).1 1).trans rfl; have hx2 := (blk_cell (Sp.blk HS.out (i := 0) rfl).1 2).trans rfl)
           | ((with_reducible refine gate_dst (N := 42) rfl ?_); refine Kd.R_lit kC _ 69 ?hg (N := 42) ?hd (xs := [x]) (inner := [.int .i64 x.f0, .int .i64 x.f1, .int .i64 x.f2]) (ok := fun _ => True) (okp := fun _ => True) ?hr ?hp (fun _ hk => hk) trivial (Below.refl _ _) (Nat.le_refl _) (by simp) ?_; (case hd => rfl); (case hg => rfl); (case hr => first | (go_simp; done) | (go_simp; rfl)); (case hp => exact (Reps.c3 (show Kd.M kC _ _ _ x [.int .i64 x.f0, .int .i64 x.f1, .int .i64 x.f2] from k69_mkM _ _ _ x) (Reps.none _ _))); intro vl_ wl_ ho_ hb_ hg_ hn_; clear hg_ hn_; have HS_ := A0_ (Sp.made' HS.out hb_ ho_); clear HS; have HS := HS_; clear HS_; clear ho_ hb_; obtain ⟨Ax, cx, ev_⟩ := Sp.slice HS.out (i := 0) rfl; subst ev_; clear hx0 hx1 hx2)
           | ((with_reducible refine gate_builtin (b := .append) (xs := #[.tmp 40, .tmp 42]) rfl ?_); at_builtin; obtain ⟨fp_, ho_, hf_, hc_⟩ := Sp.row HS.out (i := 2) rfl; refine Kd.R_append_rows kC (w0 := w) w.heap.size rfl (.tmp 40) (.tmp 42) 34 69 ((.agg #[(.int .i64 0), (.int .i64 0), (.int .i64 0)])) 24 rfl Try.underlying34 info69 rfl (by decide) (by omega) (.slice (some ado) (expI l0 o c i).length ca) (expI l0 o c i) ([x]) _ _ _ _ (fun _ => False) rfl rfl ho_ ((Sp.reads HS.out (i := 0) rfl).2.2) (fun _ _ h => h) (fun _ h => h.elim) (fun _ h => Or.inr h) HS.out.below HS.out.below.size ?aL ?_; (case aL => have := HFI.out.len; have := HZ.out.2; simp only [List.length_cons, List.length_nil]; omega); intro va_ wa_ ho hb hg hat; have HS_ := A0_ (hc_ _ _ _ ho hg); clear HS; have HS := HS_; clear HS_; clear ho hb hg hat hc_ hf_ ho_ fp_; obtain ⟨A2, c2_, ev_⟩ := Sp.slice HS.out (i := 2) rfl; subst ev_; rw [← HN.out] at HS))
          (have HS_ := A0_ (show Sp w [Res.row kC 69 w.heap.size (.slice A2 (expI l0 o c (i + 1)).length c2_) (expI l0 o c (i + 1))] _ from Sp.tail (Sp.tail HS.out))); clear HS; (have HS := HS_); clear HS_; (go_roundg k2)
          case measure => omega
          case rel =>
           (rw [HWI.out]); (exact ⟨i + 1, A2, c2_, rfl, by rw [HN.out, List.length_append]; rfl, ⟨by have := HI6.out; omega, by have := HY.out; omega⟩, HS⟩)
       ·(refine event_step (v := .pointer (some ⟨wA11.heap.size, 0, none⟩)) (w1 := wA11.alloc (.cells #[.int .i64 0, .int .i64 0, .int .i64 0] 69)) (by rfl) (by first | (go_simp; done) | (go_simp; rfl)) ?_); (obtain ⟨gx, hg_⟩ : ∃ g_, g_ = (wA11).heap.size := ⟨_, rfl⟩); (obtain ⟨wB12, hw_⟩ : ∃ w_, w_ = World.alloc wA11 (.cells #[.int .i64 0, .int .i64 0, .int .i64 0] 69) := ⟨_, rfl⟩); (rw [← hw_, ← hg_]); (have HS_ := A0_ (Sp.box HS.out #[.int .i64 0, .int .i64 0, .int .i64 0] 69)); (rw [← hw_, ← hg_] at HS_); clear HS; (have HS := HS_); clear HS_ hw_ hg_
        refine hK.out _ _ (⟨((HOA.out ▸ Sp.cbCells HS.out (i := 2) rfl k HKX.out).1), ((HOA.out ▸ Sp.cbCells HS.out (i := 2) rfl k HKX.out).2.1), ((HOA.out ▸ Sp.cbCells HS.out (i := 2) rfl k HKX.out).2.2)⟩) (fun hHeld => ?_)
        clear hK K; (refine nm_ (some 6) ?_)
        refine o1_ 8 (some 29) (fun K hK => ?_)
        (refine goes_ Try.func96 (by kernel_rfl) rfl #[.agg #[.int .i64 c.f0, .int .i64 c.f1, .int .i64 c.f2], .agg #[.int .i64 si.f0, .int .i64 si.f1, .int .i64 si.f2]] (by rfl) rfl rfl (by (try simp only [List.map_toArray, List.map_cons, List.map_nil]); first | done | rfl | (simp only [List.length_drop, List.length_take]; rfl)) ?_); (refine (spec_l09Add.calls c.f0 c.f1 c.f2 si.f0 si.f1 si.f2 (addC c si).f0 (addC c si).f1 (addC c si).f2 _ rfl).mono ?_); (rintro e wA13 ⟨rfl, hb⟩); (refine ⟨_, rfl, ?_⟩); (have HS_ := A0_ (Sp.far HS.out hb)); clear HS; (have HS := HS_); clear HS_; clear hb
        refine hK.out _ _ (⟨((HOA.out ▸ Sp.cbCells HS.out (i := 2) rfl k HKX.out).1), ((HOA.out ▸ Sp.cbCells HS.out (i := 2) rfl k HKX.out).2.1), ((HOA.out ▸ Sp.cbCells HS.out (i := 2) rfl k HKX.out).2.2)⟩) (fun hHeld => ?_)
        clear hK K; (refine nm_ (some 29) ?_)
        refine o1_ 10 none (fun K hK => ?_)
        (refine skip_ (w1 := wA13.setCells gx 0 (#[.int .i64 (addC c si).f0, .int .i64 (addC c si).f1, .int .i64 (addC c si).f2] : Array Value).toList) (by rfl) rfl (exec_store (v := .pointer (some ⟨gx, 0, none⟩)) (u := .agg #[.int .i64 (addC c si).f0, .int .i64 (addC c si).f1, .int .i64 (addC c si).f2]) rfl (by first | rfl | (go_simp; done) | (go_simp; rfl)) (by first | rfl | (go_simp; done) | (go_simp; rfl)) (Sp.blkStore HS.out (i := 0) rfl (.agg #[.int .i64 (addC c si).f0, .int .i64 (addC c si).f1, .int .i64 (addC c si).f2]) (#[.int .i64 (addC c si).f0, .int .i64 (addC c si).f1, .int .i64 (addC c si).f2]) rfl rfl (by kernel_rfl) (by first | (simp; done) | (simp [Value.oneCell']; done) | (simp; exact ⟨rfl, rfl, rfl⟩)))) ?_); (obtain ⟨wS14, hw_⟩ : ∃ w_, w_ = wA13.setCells gx 0 (#[.int .i64 (addC c si).f0, .int .i64 (addC c si).f1, .int .i64 (addC c si).f2] : Array Value).toList := ⟨_, rfl⟩); (rw [← hw_]); (have HS_ := A0_ (Sp.blkAll HS.out (i := 0) rfl (#[.int .i64 (addC c si).f0, .int .i64 (addC c si).f1, .int .i64 (addC c si).f2]) rfl)); (rw [← hw_] at HS_); clear HS; (have HS := HS_); clear HS_ hw_
        refine hK.out _ _ (⟨((HOA.out ▸ Sp.cbCells HS.out (i := 2) rfl k HKX.out).1), ((HOA.out ▸ Sp.cbCells HS.out (i := 2) rfl k HKX.out).2.1), ((HOA.out ▸ Sp.cbCells HS.out (i := 2) rfl k HKX.out).2.2)⟩) (fun hHeld => ?_)
        clear hK K; (refine dn_ ?_); (have HS_ := A0_ (Sp.arr (pre := [Res.blk gx #[.int .i64 (addC c si).f0, .int .i64 (addC c si).f1, .int .i64 (addC c si).f2] 69, Res.row kC 69 w.heap.size (.slice (some ads) (stepsC).length cA11) (stepsC), Res.row kC 69 w.heap.size (.slice (some ado) (expI l0 o c i).length ca) (expI l0 o c i)]) (pre' := [Res.blk gx #[.int .i64 (addC c si).f0, .int .i64 (addC c si).f1, .int .i64 (addC c si).f2] 69, Res.row kC 69 w.heap.size (.slice (some ado) (expI l0 o c i).length ca) (expI l0 o c i), Res.row kC 69 w.heap.size (.slice (some ads) (stepsC).length cA11) (stepsC)]) (rest := ([] : List Res)) [0, 2, 1] HS.out rfl rfl)); clear HS; (have HS := HS_); clear HS_; (rw [show addC c si = x from hx.symm] at HS); (have HX6 := A0_ hx); clear hx; (have hx0 := (blk_cell (Sp.blk HS.out (i := 0) rfl).1 0).trans rfl); (have hx1 := (blk_cell (Sp.blk HS.out (i := 0) rfl).1 1).trans rfl); (have hx2 := (blk_cell (Sp.blk HS.out (i := 0) rfl).1 2).trans rfl); (obtain ⟨Ka, ra, ha, hKa⟩ := HIX.out l0 x HZ.out.2); (have HKA := A0_ hKa)
        cases c1 : l0.contains x with
        | false =>
         (rw [c1] at ha); (have n0_ : decide (0 ≤ ra) = false := ha); (have n1_ : (0 ≤ ra) = False := eq_false (of_decide_eq_false ha)); (have HN := A0_ (show expI l0 o c (i + 1) = expI l0 o c i by rw [HES.out, ← HX6.out]; unfold addO; rw [c1, Bool.false_and, if_neg (by simp)])); clear c1 ha
         go_wp2_with (first
          | (go_at_call 102; refine (spec_l09Index.calls Ka (some ad0) c0 l0 x.f0 x.f1 x.f2 ra _ (Kd.C_below HR0.out HS.out.below) HC0.out HKA.out).mono ?_; rintro e wc_ ⟨rfl, hd_⟩; have HS_ := A0_ (Sp.far HS.out hd_); clear HS; have HS := HS_; clear HS_; clear hd_ hx0 hx1 hx2 HKA; have hx0 := (blk_cell (Sp.blk HS.out (i := 0) rfl).1 0).trans rfl; have hx1 := (blk_cell (Sp.blk HS.out (i := 0) rfl).1 1).trans rfl; have hx2 := (blk_cell (Sp.blk HS.out (i := 0) rfl).1 2).trans rfl))
         (have HS_ := A0_ (show Sp w [Res.row kC 69 w.heap.size (.slice (some ado) (expI l0 o c i).length ca) (expI l0 o c i)] _ from Sp.tail (Sp.out HS.out 2))); clear HS; (have HS := HS_); clear HS_; (go_roundg k2)
         case measure => omega
         case rel =>
          (rw [HWI.out]); (exact ⟨i + 1, some ado, ca, rfl, by rw [HN.out], ⟨by have := HI6.out; omega, by have := HY.out; omega⟩, ⟨by rw [HN.out]; exact HS.out⟩⟩)
        | true =>
         (rw [c1] at ha); (have n0_ : decide (0 ≤ ra) = true := ha); (have n1_ : (0 ≤ ra) = True := eq_true (of_decide_eq_true ha)); (obtain ⟨Kb, rb, hb, hKb⟩ := HIX.out (expI l0 o c i) x (by have := HFI.out.len; have := HZ.out.2; omega)); (have HKB := A0_ hKb); clear ha hKb
         cases c2 : (expI l0 o c i).contains x with
         | true =>
          (rw [c2] at hb); (have m0_ : decide (rb < 0) = false := decide_eq_false (by have := of_decide_eq_true hb; omega)); (have m1_ : (rb < 0) = False := eq_false (by have := of_decide_eq_true hb; omega)); (have HN := A0_ (show expI l0 o c (i + 1) = expI l0 o c i by rw [HES.out, ← HX6.out]; unfold addO; rw [c1, c2, Bool.not_true, Bool.and_false, if_neg (by simp)])); clear c1 c2 hb
          go_wp2_with (first
           | (go_at_call 102; refine (spec_l09Index.calls Ka (some ad0) c0 l0 x.f0 x.f1 x.f2 ra _ (Kd.C_below HR0.out HS.out.below) HC0.out HKA.out).mono ?_; rintro e wc_ ⟨rfl, hd_⟩; have HS_ := A0_ (Sp.far HS.out hd_); clear HS; have HS := HS_; clear HS_; clear hd_ hx0 hx1 hx2 HKA; have hx0 := (blk_cell (Sp.blk HS.out (i := 0) rfl).1 0).trans rfl; have hx1 := (blk_cell (Sp.blk HS.out (i := 0) rfl).1 1).trans rfl; have hx2 := (blk_cell (Sp.blk HS.out (i := 0) rfl).1 2).trans rfl)
           | (go_at_call 102; refine (spec_l09Index.calls Kb (some ado) ca (expI l0 o c i) x.f0 x.f1 x.f2 rb _ (Sp.reads HS.out (i := 1) rfl).2.2 (Sp.reads HS.out (i := 1) rfl).2.1 HKB.out).mono ?_; rintro e wc_ ⟨rfl, hd_⟩; have HS_ := A0_ (Sp.far HS.out hd_); clear HS; have HS := HS_; clear HS_; clear hd_ hx0 hx1 hx2 HKB; have hx0 := (blk_cell (Sp.blk HS.out (i := 0) rfl).1 0).trans rfl; have hx1 := (blk_cell (Sp.blk HS.out (i := 0) rfl).1 1).trans rfl; have hx2 := (blk_cell (Sp.blk HS.out (i := 0) rfl).1 2).trans rfl))
          (have HS_ := A0_ (show Sp w [Res.row kC 69 w.heap.size (.slice (some ado) (expI l0 o c i).length ca) (expI l0 o c i)] _ from Sp.tail (Sp.out HS.out 2))); clear HS; (have HS := HS_); clear HS_; (go_roundg k2)
          case measure => omega
          case rel =>
           (rw [HWI.out]); (exact ⟨i + 1, some ado, ca, rfl, by rw [HN.out], ⟨by have := HI6.out; omega, by have := HY.out; omega⟩, ⟨by rw [HN.out]; exact HS.out⟩⟩)
         | false =>
          (rw [c2] at hb); (have m0_ : decide (rb < 0) = true := decide_eq_true (by have := of_decide_eq_false hb; omega)); (have m1_ : (rb < 0) = True := eq_true (by have := of_decide_eq_false hb; omega)); (have HN := A0_ (show expI l0 o c (i + 1) = expI l0 o c i ++ [x] by rw [HES.out, ← HX6.out]; unfold addO; rw [c1, c2, Bool.not_false, Bool.and_true, if_pos rfl])); clear c1 c2 hb; (have HS_ := A0_ (show Sp w [Res.blk gx #[.int .i64 x.f0, .int .i64 x.f1, .int .i64 x.f2] 69, Res.row kC 69 w.heap.size (.slice (some ado) (expI l0 o c i).length ca) (expI l0 o c i)] _ from Sp.out HS.out 2)); clear HS; (have HS := HS_); clear HS_
          go_wp2_with (first
           | (go_at_call 102; refine (spec_l09Index.calls Ka (some ad0) c0 l0 x.f0 x.f1 x.f2 ra _ (Kd.C_below HR0.out HS.out.below) HC0.out HKA.out).mono ?_; rintro e wc_ ⟨rfl, hd_⟩; have HS_ := A0_ (Sp.far HS.out hd_); clear HS; have HS := HS_; clear HS_; clear hd_ hx0 hx1 hx2 HKA; have hx0 := (blk_cell (Sp.blk HS.out (i := 0) rfl).1 0).trans rfl; have hx1 := (blk_cell (Sp.blk HS.out (i := 0) rfl).1 1).trans rfl; have hx2 := (blk_cell (Sp.blk HS.out (i := 0) rfl).1 2).trans rfl)
           | (go_at_call 102; refine (spec_l09Index.calls Kb (some ado) ca (expI l0 o c i) x.f0 x.f1 x.f2 rb _ (Sp.reads HS.out (i := 1) rfl).2.2 (Sp.reads HS.out (i := 1) rfl).2.1 HKB.out).mono ?_; rintro e wc_ ⟨rfl, hd_⟩; have HS_ := A0_ (Sp.far HS.out hd_); clear HS; have HS := HS_; clear HS_; clear hd_ hx0 hx1 hx2 HKB; have hx0 := (blk_cell (Sp.blk HS.out (i := 0) rfl).1 0).trans rfl; have hx1 := (blk_cell (Sp.blk HS.out (i := 0) rfl).1 1).trans rfl; have hx2 := (blk_cell (Sp.blk HS.out (i := 0) rfl).1 2).trans rfl)
           | ((with_reducible refine gate_dst (N := 42) rfl ?_); refine Kd.R_lit kC _ 69 ?hg (N := 42) ?hd (xs := [x]) (inner := [.int .i64 x.f0, .int .i64 x.f1, .int .i64 x.f2]) (ok := fun _ => True) (okp := fun _ => True) ?hr ?hp (fun _ hk => hk) trivial (Below.refl _ _) (Nat.le_refl _) (by simp) ?_; (case hd => rfl); (case hg => rfl); (case hr => first | (go_simp; done) | (go_simp; rfl)); (case hp => exact (Reps.c3 (show Kd.M kC _ _ _ x [.int .i64 x.f0, .int .i64 x.f1, .int .i64 x.f2] from k69_mkM _ _ _ x) (Reps.none _ _))); intro vl_ wl_ ho_ hb_ hg_ hn_; clear hg_ hn_; have HS_ := A0_ (Sp.made' HS.out hb_ ho_); clear HS; have HS := HS_; clear HS_; clear ho_ hb_; obtain ⟨Ax, cx, ev_⟩ := Sp.slice HS.out (i := 0) rfl; subst ev_; clear hx0 hx1 hx2)
           | ((with_reducible refine gate_builtin (b := .append) (xs := #[.tmp 40, .tmp 42]) rfl ?_); at_builtin; obtain ⟨fp_, ho_, hf_, hc_⟩ := Sp.row HS.out (i := 2) rfl; refine Kd.R_append_rows kC (w0 := w) w.heap.size rfl (.tmp 40) (.tmp 42) 34 69 ((.agg #[(.int .i64 0), (.int .i64 0), (.int .i64 0)])) 24 rfl Try.underlying34 info69 rfl (by decide) (by omega) (.slice (some ado) (expI l0 o c i).length ca) (expI l0 o c i) ([x]) _ _ _ _ (fun _ => False) rfl rfl ho_ ((Sp.reads HS.out (i := 0) rfl).2.2) (fun _ _ h => h) (fun _ h => h.elim) (fun _ h => Or.inr h) HS.out.below HS.out.below.size ?aL ?_; (case aL => have := HFI.out.len; have := HZ.out.2; simp only [List.length_cons, List.length_nil]; omega); intro va_ wa_ ho hb hg hat; have HS_ := A0_ (hc_ _ _ _ ho hg); clear HS; have HS := HS_; clear HS_; clear ho hb hg hat hc_ hf_ ho_ fp_; obtain ⟨A2, c2_, ev_⟩ := Sp.slice HS.out (i := 2) rfl; subst ev_; rw [← HN.out] at HS))
          (have HS_ := A0_ (show Sp w [Res.row kC 69 w.heap.size (.slice A2 (expI l0 o c (i + 1)).length c2_) (expI l0 o c (i + 1))] _ from Sp.tail (Sp.tail HS.out))); clear HS; (have HS := HS_); clear HS_; (go_roundg k2)
          case measure => omega
          case rel =>
           (rw [HWI.out]); (exact ⟨i + 1, A2, c2_, rfl, by rw [HN.out, List.length_append]; rfl, ⟨by have := HI6.out; omega, by have := HY.out; omega⟩, HS⟩)
      ·(refine event_step (v := .pointer (some ⟨wA11.heap.size, 0, none⟩)) (w1 := wA11.alloc (.cells #[.int .i64 0, .int .i64 0, .int .i64 0] 69)) (by rfl) (by first | (go_simp; done) | (go_simp; rfl)) ?_); (obtain ⟨gx, hg_⟩ : ∃ g_, g_ = (wA11).heap.size := ⟨_, rfl⟩); (obtain ⟨wB12, hw_⟩ : ∃ w_, w_ = World.alloc wA11 (.cells #[.int .i64 0, .int .i64 0, .int .i64 0] 69) := ⟨_, rfl⟩); (rw [← hw_, ← hg_]); (have HS_ := A0_ (Sp.box HS.out #[.int .i64 0, .int .i64 0, .int .i64 0] 69)); (rw [← hw_, ← hg_] at HS_); clear HS; (have HS := HS_); clear HS_ hw_ hg_
       refine hK.out _ _ (⟨((HOA.out ▸ Sp.cbCells HS.out (i := 2) rfl k HKX.out).1), ((HOA.out ▸ Sp.cbCells HS.out (i := 2) rfl k HKX.out).2.1), ((HOA.out ▸ Sp.cbCells HS.out (i := 2) rfl k HKX.out).2.2)⟩) (fun hHeld => ?_)
       clear hK K; (refine nm_ (some 6) ?_)
       refine o1_ 7 (some 28) (fun K hK => ?_)
       (obtain ⟨hs0, hs1, hs2⟩ := Sp.cbCells HS.out (i := 1) rfl i HI6.out); (rw [HSI0.out] at hs0 hs1 hs2); (refine event_step (v := .agg #[.int .i64 si.f0, .int .i64 si.f1, .int .i64 si.f2]) (w1 := wB12) (by rfl) (by first | (go_simp; done) | (go_simp; rfl)) ?_); clear hs0 hs1 hs2
       refine hK.out _ _ (⟨((HOA.out ▸ Sp.cbCells HS.out (i := 2) rfl k HKX.out).1), ((HOA.out ▸ Sp.cbCells HS.out (i := 2) rfl k HKX.out).2.1), ((HOA.out ▸ Sp.cbCells HS.out (i := 2) rfl k HKX.out).2.2)⟩) (fun hHeld => ?_)
       clear hK K; (refine nm_ (some 28) ?_)
       refine o1_ 8 (some 29) (fun K hK => ?_)
       (refine goes_ Try.func96 (by kernel_rfl) rfl #[.agg #[.int .i64 c.f0, .int .i64 c.f1, .int .i64 c.f2], .agg #[.int .i64 si.f0, .int .i64 si.f1, .int .i64 si.f2]] (by rfl) rfl rfl (by (try simp only [List.map_toArray, List.map_cons, List.map_nil]); first | done | rfl | (simp only [List.length_drop, List.length_take]; rfl)) ?_); (refine (spec_l09Add.calls c.f0 c.f1 c.f2 si.f0 si.f1 si.f2 (addC c si).f0 (addC c si).f1 (addC c si).f2 _ rfl).mono ?_); (rintro e wA13 ⟨rfl, hb⟩); (refine ⟨_, rfl, ?_⟩); (have HS_ := A0_ (Sp.far HS.out hb)); clear HS; (have HS := HS_); clear HS_; clear hb
       refine hK.out _ _ (⟨((HOA.out ▸ Sp.cbCells HS.out (i := 2) rfl k HKX.out).1), ((HOA.out ▸ Sp.cbCells HS.out (i := 2) rfl k HKX.out).2.1), ((HOA.out ▸ Sp.cbCells HS.out (i := 2) rfl k HKX.out).2.2)⟩) (fun hHeld => ?_)
       clear hK K; (refine nm_ (some 29) ?_)
       refine o1_ 10 none (fun K hK => ?_)
       (refine skip_ (w1 := wA13.setCells gx 0 (#[.int .i64 (addC c si).f0, .int .i64 (addC c si).f1, .int .i64 (addC c si).f2] : Array Value).toList) (by rfl) rfl (exec_store (v := .pointer (some ⟨gx, 0, none⟩)) (u := .agg #[.int .i64 (addC c si).f0, .int .i64 (addC c si).f1, .int .i64 (addC c si).f2]) rfl (by first | rfl | (go_simp; done) | (go_simp; rfl)) (by first | rfl | (go_simp; done) | (go_simp; rfl)) (Sp.blkStore HS.out (i := 0) rfl (.agg #[.int .i64 (addC c si).f0, .int .i64 (addC c si).f1, .int .i64 (addC c si).f2]) (#[.int .i64 (addC c si).f0, .int .i64 (addC c si).f1, .int .i64 (addC c si).f2]) rfl rfl (by kernel_rfl) (by first | (simp; done) | (simp [Value.oneCell']; done) | (simp; exact ⟨rfl, rfl, rfl⟩)))) ?_); (obtain ⟨wS14, hw_⟩ : ∃ w_, w_ = wA13.setCells gx 0 (#[.int .i64 (addC c si).f0, .int .i64 (addC c si).f1, .int .i64 (addC c si).f2] : Array Value).toList := ⟨_, rfl⟩); (rw [← hw_]); (have HS_ := A0_ (Sp.blkAll HS.out (i := 0) rfl (#[.int .i64 (addC c si).f0, .int .i64 (addC c si).f1, .int .i64 (addC c si).f2]) rfl)); (rw [← hw_] at HS_); clear HS; (have HS := HS_); clear HS_ hw_
       refine hK.out _ _ (⟨((HOA.out ▸ Sp.cbCells HS.out (i := 2) rfl k HKX.out).1), ((HOA.out ▸ Sp.cbCells HS.out (i := 2) rfl k HKX.out).2.1), ((HOA.out ▸ Sp.cbCells HS.out (i := 2) rfl k HKX.out).2.2)⟩) (fun hHeld => ?_)
       clear hK K; (refine dn_ ?_); (have HS_ := A0_ (Sp.arr (pre := [Res.blk gx #[.int .i64 (addC c si).f0, .int .i64 (addC c si).f1, .int .i64 (addC c si).f2] 69, Res.row kC 69 w.heap.size (.slice (some ads) (stepsC).length cA11) (stepsC), Res.row kC 69 w.heap.size (.slice (some ado) (expI l0 o c i).length ca) (expI l0 o c i)]) (pre' := [Res.blk gx #[.int .i64 (addC c si).f0, .int .i64 (addC c si).f1, .int .i64 (addC c si).f2] 69, Res.row kC 69 w.heap.size (.slice (some ado) (expI l0 o c i).length ca) (expI l0 o c i), Res.row kC 69 w.heap.size (.slice (some ads) (stepsC).length cA11) (stepsC)]) (rest := ([] : List Res)) [0, 2, 1] HS.out rfl rfl)); clear HS; (have HS := HS_); clear HS_; (rw [show addC c si = x from hx.symm] at HS); (have HX6 := A0_ hx); clear hx; (have hx0 := (blk_cell (Sp.blk HS.out (i := 0) rfl).1 0).trans rfl); (have hx1 := (blk_cell (Sp.blk HS.out (i := 0) rfl).1 1).trans rfl); (have hx2 := (blk_cell (Sp.blk HS.out (i := 0) rfl).1 2).trans rfl); (obtain ⟨Ka, ra, ha, hKa⟩ := HIX.out l0 x HZ.out.2); (have HKA := A0_ hKa)
       cases c1 : l0.contains x with
       | false =>
        (rw [c1] at ha); (have n0_ : decide (0 ≤ ra) = false := ha); (have n1_ : (0 ≤ ra) = False := eq_false (of_decide_eq_false ha)); (have HN := A0_ (show expI l0 o c (i + 1) = expI l0 o c i by rw [HES.out, ← HX6.out]; unfold addO; rw [c1, Bool.false_and, if_neg (by simp)])); clear c1 ha
        go_wp2_with (first
         | (go_at_call 102; refine (spec_l09Index.calls Ka (some ad0) c0 l0 x.f0 x.f1 x.f2 ra _ (Kd.C_below HR0.out HS.out.below) HC0.out HKA.out).mono ?_; rintro e wc_ ⟨rfl, hd_⟩; have HS_ := A0_ (Sp.far HS.out hd_); clear HS; have HS := HS_; clear HS_; clear hd_ hx0 hx1 hx2 HKA; have hx0 := (blk_cell (Sp.blk HS.out (i := 0) rfl).1 0).trans rfl; have hx1 := (blk_cell (Sp.blk HS.out (i := 0) rfl).1 1).trans rfl; have hx2 := (blk_cell (Sp.blk HS.out (i := 0) rfl).1 2).trans rfl))
        (have HS_ := A0_ (show Sp w [Res.row kC 69 w.heap.size (.slice (some ado) (expI l0 o c i).length ca) (expI l0 o c i)] _ from Sp.tail (Sp.out HS.out 2))); clear HS; (have HS := HS_); clear HS_; (go_roundg k2)
        case measure => omega
        case rel =>
         (rw [HWI.out]); (exact ⟨i + 1, some ado, ca, rfl, by rw [HN.out], ⟨by have := HI6.out; omega, by have := HY.out; omega⟩, ⟨by rw [HN.out]; exact HS.out⟩⟩)
       | true =>
        (rw [c1] at ha); (have n0_ : decide (0 ≤ ra) = true := ha); (have n1_ : (0 ≤ ra) = True := eq_true (of_decide_eq_true ha)); (obtain ⟨Kb, rb, hb, hKb⟩ := HIX.out (expI l0 o c i) x (by have := HFI.out.len; have := HZ.out.2; omega)); (have HKB := A0_ hKb); clear ha hKb
        cases c2 : (expI l0 o c i).contains x with
        | true =>
         (rw [c2] at hb); (have m0_ : decide (rb < 0) = false := decide_eq_false (by have := of_decide_eq_true hb; omega)); (have m1_ : (rb < 0) = False := eq_false (by have := of_decide_eq_true hb; omega)); (have HN := A0_ (show expI l0 o c (i + 1) = expI l0 o c i by rw [HES.out, ← HX6.out]; unfold addO; rw [c1, c2, Bool.not_true, Bool.and_false, if_neg (by simp)])); clear c1 c2 hb
         go_wp2_with (first
          | (go_at_call 102; refine (spec_l09Index.calls Ka (some ad0) c0 l0 x.f0 x.f1 x.f2 ra _ (Kd.C_below HR0.out HS.out.below) HC0.out HKA.out).mono ?_; rintro e wc_ ⟨rfl, hd_⟩; have HS_ := A0_ (Sp.far HS.out hd_); clear HS; have HS := HS_; clear HS_; clear hd_ hx0 hx1 hx2 HKA; have hx0 := (blk_cell (Sp.blk HS.out (i := 0) rfl).1 0).trans rfl; have hx1 := (blk_cell (Sp.blk HS.out (i := 0) rfl).1 1).trans rfl; have hx2 := (blk_cell (Sp.blk HS.out (i := 0) rfl).1 2).trans rfl)
          | (go_at_call 102; refine (spec_l09Index.calls Kb (some ado) ca (expI l0 o c i) x.f0 x.f1 x.f2 rb _ (Sp.reads HS.out (i := 1) rfl).2.2 (Sp.reads HS.out (i := 1) rfl).2.1 HKB.out).mono ?_; rintro e wc_ ⟨rfl, hd_⟩; have HS_ := A0_ (Sp.far HS.out hd_); clear HS; have HS := HS_; clear HS_; clear hd_ hx0 hx1 hx2 HKB; have hx0 := (blk_cell (Sp.blk HS.out (i := 0) rfl).1 0).trans rfl; have hx1 := (blk_cell (Sp.blk HS.out (i := 0) rfl).1 1).trans rfl; have hx2 := (blk_cell (Sp.blk HS.out (i := 0) rfl).1 2).trans rfl))
         (have HS_ := A0_ (show Sp w [Res.row kC 69 w.heap.size (.slice (some ado) (expI l0 o c i).length ca) (expI l0 o c i)] _ from Sp.tail (Sp.out HS.out 2))); clear HS; (have HS := HS_); clear HS_; (go_roundg k2)
         case measure => omega
         case rel =>
          (rw [HWI.out]); (exact ⟨i + 1, some ado, ca, rfl, by rw [HN.out], ⟨by have := HI6.out; omega, by have := HY.out; omega⟩, ⟨by rw [HN.out]; exact HS.out⟩⟩)
        | false =>
         (rw [c2] at hb); (have m0_ : decide (rb < 0) = true := decide_eq_true (by have := of_decide_eq_false hb; omega)); (have m1_ : (rb < 0) = True := eq_true (by have := of_decide_eq_false hb; omega)); (have HN := A0_ (show expI l0 o c (i + 1) = expI l0 o c i ++ [x] by rw [HES.out, ← HX6.out]; unfold addO; rw [c1, c2, Bool.not_false, Bool.and_true, if_pos rfl])); clear c1 c2 hb; (have HS_ := A0_ (show Sp w [Res.blk gx #[.int .i64 x.f0, .int .i64 x.f1, .int .i64 x.f2] 69, Res.row kC 69 w.heap.size (.slice (some ado) (expI l0 o c i).length ca) (expI l0 o c i)] _ from Sp.out HS.out 2)); clear HS; (have HS := HS_); clear HS_
         go_wp2_with (first
          | (go_at_call 102; refine (spec_l09Index.calls Ka (some ad0) c0 l0 x.f0 x.f1 x.f2 ra _ (Kd.C_below HR0.out HS.out.below) HC0.out HKA.out).mono ?_; rintro e wc_ ⟨rfl, hd_⟩; have HS_ := A0_ (Sp.far HS.out hd_); clear HS; have HS := HS_; clear HS_; clear hd_ hx0 hx1 hx2 HKA; have hx0 := (blk_cell (Sp.blk HS.out (i := 0) rfl).1 0).trans rfl; have hx1 := (blk_cell (Sp.blk HS.out (i := 0) rfl).1 1).trans rfl; have hx2 := (blk_cell (Sp.blk HS.out (i := 0) rfl).1 2).trans rfl)
          | (go_at_call 102; refine (spec_l09Index.calls Kb (some ado) ca (expI l0 o c i) x.f0 x.f1 x.f2 rb _ (Sp.reads HS.out (i := 1) rfl).2.2 (Sp.reads HS.out (i := 1) rfl).2.1 HKB.out).mono ?_; rintro e wc_ ⟨rfl, hd_⟩; have HS_ := A0_ (Sp.far HS.out hd_); clear HS; have HS := HS_; clear HS_; clear hd_ hx0 hx1 hx2 HKB; have hx0 := (blk_cell (Sp.blk HS.out (i := 0) rfl).1 0).trans rfl; have hx1 := (blk_cell (Sp.blk HS.out (i := 0) rfl).1 1).trans rfl; have hx2 := (blk_cell (Sp.blk HS.out (i := 0) rfl).1 2).trans rfl)
          | ((with_reducible refine gate_dst (N := 42) rfl ?_); refine Kd.R_lit kC _ 69 ?hg (N := 42) ?hd (xs := [x]) (inner := [.int .i64 x.f0, .int .i64 x.f1, .int .i64 x.f2]) (ok := fun _ => True) (okp := fun _ => True) ?hr ?hp (fun _ hk => hk) trivial (Below.refl _ _) (Nat.le_refl _) (by simp) ?_; (case hd => rfl); (case hg => rfl); (case hr => first | (go_simp; done) | (go_simp; rfl)); (case hp => exact (Reps.c3 (show Kd.M kC _ _ _ x [.int .i64 x.f0, .int .i64 x.f1, .int .i64 x.f2] from k69_mkM _ _ _ x) (Reps.none _ _))); intro vl_ wl_ ho_ hb_ hg_ hn_; clear hg_ hn_; have HS_ := A0_ (Sp.made' HS.out hb_ ho_); clear HS; have HS := HS_; clear HS_; clear ho_ hb_; obtain ⟨Ax, cx, ev_⟩ := Sp.slice HS.out (i := 0) rfl; subst ev_; clear hx0 hx1 hx2)
          | ((with_reducible refine gate_builtin (b := .append) (xs := #[.tmp 40, .tmp 42]) rfl ?_); at_builtin; obtain ⟨fp_, ho_, hf_, hc_⟩ := Sp.row HS.out (i := 2) rfl; refine Kd.R_append_rows kC (w0 := w) w.heap.size rfl (.tmp 40) (.tmp 42) 34 69 ((.agg #[(.int .i64 0), (.int .i64 0), (.int .i64 0)])) 24 rfl Try.underlying34 info69 rfl (by decide) (by omega) (.slice (some ado) (expI l0 o c i).length ca) (expI l0 o c i) ([x]) _ _ _ _ (fun _ => False) rfl rfl ho_ ((Sp.reads HS.out (i := 0) rfl).2.2) (fun _ _ h => h) (fun _ h => h.elim) (fun _ h => Or.inr h) HS.out.below HS.out.below.size ?aL ?_; (case aL => have := HFI.out.len; have := HZ.out.2; simp only [List.length_cons, List.length_nil]; omega); intro va_ wa_ ho hb hg hat; have HS_ := A0_ (hc_ _ _ _ ho hg); clear HS; have HS := HS_; clear HS_; clear ho hb hg hat hc_ hf_ ho_ fp_; obtain ⟨A2, c2_, ev_⟩ := Sp.slice HS.out (i := 2) rfl; subst ev_; rw [← HN.out] at HS))
         (have HS_ := A0_ (show Sp w [Res.row kC 69 w.heap.size (.slice A2 (expI l0 o c (i + 1)).length c2_) (expI l0 o c (i + 1))] _ from Sp.tail (Sp.tail HS.out))); clear HS; (have HS := HS_); clear HS_; (go_roundg k2)
         case measure => omega
         case rel =>
          (rw [HWI.out]); (exact ⟨i + 1, A2, c2_, rfl, by rw [HN.out, List.length_append]; rfl, ⟨by have := HI6.out; omega, by have := HY.out; omega⟩, HS⟩)
     ·(refine event_step (v := .pointer (some ⟨wD.heap.size, 0, none⟩)) (w1 := wD.alloc (.cells #[.int .i64 0, .int .i64 0, .int .i64 0] 69)) (by rfl) (by first | (go_simp; done) | (go_simp; rfl)) ?_); (obtain ⟨gx, hg_⟩ : ∃ g_, g_ = (wD).heap.size := ⟨_, rfl⟩); (obtain ⟨wB11, hw_⟩ : ∃ w_, w_ = World.alloc wD (.cells #[.int .i64 0, .int .i64 0, .int .i64 0] 69) := ⟨_, rfl⟩); (rw [← hw_, ← hg_]); (have HS_ := A0_ (Sp.box HS.out #[.int .i64 0, .int .i64 0, .int .i64 0] 69)); (rw [← hw_, ← hg_] at HS_); clear HS; (have HS := HS_); clear HS_ hw_ hg_
      refine hK.out _ _ (⟨((HOA.out ▸ Sp.cbCells HS.out (i := 1) rfl k HKX.out).1), ((HOA.out ▸ Sp.cbCells HS.out (i := 1) rfl k HKX.out).2.1), ((HOA.out ▸ Sp.cbCells HS.out (i := 1) rfl k HKX.out).2.2)⟩) (fun hHeld => ?_)
      clear hK K; (refine nm_ (some 6) ?_)
      refine o1_ 4 (some 25) (fun K hK => ?_)
      (refine goes_ Try.func101 (by kernel_rfl) rfl #[] (by rfl) rfl rfl (by (try simp only [List.map_toArray, List.map_cons, List.map_nil]); first | done | rfl | (simp only [List.length_drop, List.length_take]; rfl)) ?_); (refine (spec_l09Steps.calls stepsC _ rfl).mono ?_); (rintro e wA12 ⟨vA12, rfl, ho, hb⟩); (refine ⟨_, rfl, ?_⟩); (have HS_ := A0_ (Sp.made' HS.out hb ho)); clear HS; (have HS := HS_); clear HS_; clear hb ho; (obtain ⟨AA12, cA12, rfl⟩ := Sp.slice HS.out (i := 0) rfl); (obtain ⟨ads, es_, _⟩ := at_T69 (Sp.reads HS.out (i := 0) rfl).2.2 (0 : Int) (by omega) (by decide)); subst es_
      refine hK.out _ _ (⟨((HOA.out ▸ Sp.cbCells HS.out (i := 2) rfl k HKX.out).1), ((HOA.out ▸ Sp.cbCells HS.out (i := 2) rfl k HKX.out).2.1), ((HOA.out ▸ Sp.cbCells HS.out (i := 2) rfl k HKX.out).2.2)⟩) (fun hHeld => ?_)
      clear hK K; (refine nm_ (some 25) ?_); (refine on_ 6 (some 27) ?_)
      refine o1_ 7 (some 28) (fun K hK => ?_)
      (obtain ⟨hs0, hs1, hs2⟩ := Sp.cbCells HS.out (i := 0) rfl i HI6.out); (rw [HSI0.out] at hs0 hs1 hs2); (refine event_step (v := .agg #[.int .i64 si.f0, .int .i64 si.f1, .int .i64 si.f2]) (w1 := wA12) (by rfl) (by first | (go_simp; done) | (go_simp; rfl)) ?_); clear hs0 hs1 hs2
      refine hK.out _ _ (⟨((HOA.out ▸ Sp.cbCells HS.out (i := 2) rfl k HKX.out).1), ((HOA.out ▸ Sp.cbCells HS.out (i := 2) rfl k HKX.out).2.1), ((HOA.out ▸ Sp.cbCells HS.out (i := 2) rfl k HKX.out).2.2)⟩) (fun hHeld => ?_)
      clear hK K; (refine nm_ (some 28) ?_)
      refine o1_ 8 (some 29) (fun K hK => ?_)
      (refine goes_ Try.func96 (by kernel_rfl) rfl #[.agg #[.int .i64 c.f0, .int .i64 c.f1, .int .i64 c.f2], .agg #[.int .i64 si.f0, .int .i64 si.f1, .int .i64 si.f2]] (by rfl) rfl rfl (by (try simp only [List.map_toArray, List.map_cons, List.map_nil]); first | done | rfl | (simp only [List.length_drop, List.length_take]; rfl)) ?_); (refine (spec_l09Add.calls c.f0 c.f1 c.f2 si.f0 si.f1 si.f2 (addC c si).f0 (addC c si).f1 (addC c si).f2 _ rfl).mono ?_); (rintro e wA13 ⟨rfl, hb⟩); (refine ⟨_, rfl, ?_⟩); (have HS_ := A0_ (Sp.far HS.out hb)); clear HS; (have HS := HS_); clear HS_; clear hb
      refine hK.out _ _ (⟨((HOA.out ▸ Sp.cbCells HS.out (i := 2) rfl k HKX.out).1), ((HOA.out ▸ Sp.cbCells HS.out (i := 2) rfl k HKX.out).2.1), ((HOA.out ▸ Sp.cbCells HS.out (i := 2) rfl k HKX.out).2.2)⟩) (fun hHeld => ?_)
      clear hK K; (refine nm_ (some 29) ?_)
      refine o1_ 10 none (fun K hK => ?_)
      (refine skip_ (w1 := wA13.setCells gx 0 (#[.int .i64 (addC c si).f0, .int .i64 (addC c si).f1, .int .i64 (addC c si).f2] : Array Value).toList) (by rfl) rfl (exec_store (v := .pointer (some ⟨gx, 0, none⟩)) (u := .agg #[.int .i64 (addC c si).f0, .int .i64 (addC c si).f1, .int .i64 (addC c si).f2]) rfl (by first | rfl | (go_simp; done) | (go_simp; rfl)) (by first | rfl | (go_simp; done) | (go_simp; rfl)) (Sp.blkStore HS.out (i := 1) rfl (.agg #[.int .i64 (addC c si).f0, .int .i64 (addC c si).f1, .int .i64 (addC c si).f2]) (#[.int .i64 (addC c si).f0, .int .i64 (addC c si).f1, .int .i64 (addC c si).f2]) rfl rfl (by kernel_rfl) (by first | (simp; done) | (simp [Value.oneCell']; done) | (simp; exact ⟨rfl, rfl, rfl⟩)))) ?_); (obtain ⟨wS14, hw_⟩ : ∃ w_, w_ = wA13.setCells gx 0 (#[.int .i64 (addC c si).f0, .int .i64 (addC c si).f1, .int .i64 (addC c si).f2] : Array Value).toList := ⟨_, rfl⟩); (rw [← hw_]); (have HS_ := A0_ (Sp.blkAll HS.out (i := 1) rfl (#[.int .i64 (addC c si).f0, .int .i64 (addC c si).f1, .int .i64 (addC c si).f2]) rfl)); (rw [← hw_] at HS_); clear HS; (have HS := HS_); clear HS_ hw_
      refine hK.out _ _ (⟨((HOA.out ▸ Sp.cbCells HS.out (i := 2) rfl k HKX.out).1), ((HOA.out ▸ Sp.cbCells HS.out (i := 2) rfl k HKX.out).2.1), ((HOA.out ▸ Sp.cbCells HS.out (i := 2) rfl k HKX.out).2.2)⟩) (fun hHeld => ?_)
      clear hK K; (refine dn_ ?_); (have HS_ := A0_ (Sp.arr (pre := [Res.row kC 69 w.heap.size (.slice (some ads) (stepsC).length cA12) (stepsC), Res.blk gx #[.int .i64 (addC c si).f0, .int .i64 (addC c si).f1, .int .i64 (addC c si).f2] 69, Res.row kC 69 w.heap.size (.slice (some ado) (expI l0 o c i).length ca) (expI l0 o c i)]) (pre' := [Res.blk gx #[.int .i64 (addC c si).f0, .int .i64 (addC c si).f1, .int .i64 (addC c si).f2] 69, Res.row kC 69 w.heap.size (.slice (some ado) (expI l0 o c i).length ca) (expI l0 o c i), Res.row kC 69 w.heap.size (.slice (some ads) (stepsC).length cA12) (stepsC)]) (rest := ([] : List Res)) [1, 2, 0] HS.out rfl rfl)); clear HS; (have HS := HS_); clear HS_; (rw [show addC c si = x from hx.symm] at HS); (have HX6 := A0_ hx); clear hx; (have hx0 := (blk_cell (Sp.blk HS.out (i := 0) rfl).1 0).trans rfl); (have hx1 := (blk_cell (Sp.blk HS.out (i := 0) rfl).1 1).trans rfl); (have hx2 := (blk_cell (Sp.blk HS.out (i := 0) rfl).1 2).trans rfl); (obtain ⟨Ka, ra, ha, hKa⟩ := HIX.out l0 x HZ.out.2); (have HKA := A0_ hKa)
      cases c1 : l0.contains x with
      | false =>
       (rw [c1] at ha); (have n0_ : decide (0 ≤ ra) = false := ha); (have n1_ : (0 ≤ ra) = False := eq_false (of_decide_eq_false ha)); (have HN := A0_ (show expI l0 o c (i + 1) = expI l0 o c i by rw [HES.out, ← HX6.out]; unfold addO; rw [c1, Bool.false_and, if_neg (by simp)])); clear c1 ha
       go_wp2_with (first
        | (go_at_call 102; refine (spec_l09Index.calls Ka (some ad0) c0 l0 x.f0 x.f1 x.f2 ra _ (Kd.C_below HR0.out HS.out.below) HC0.out HKA.out).mono ?_; rintro e wc_ ⟨rfl, hd_⟩; have HS_ := A0_ (Sp.far HS.out hd_); clear HS; have HS := HS_; clear HS_; clear hd_ hx0 hx1 hx2 HKA; have hx0 := (blk_cell (Sp.blk HS.out (i := 0) rfl).1 0).trans rfl; have hx1 := (blk_cell (Sp.blk HS.out (i := 0) rfl).1 1).trans rfl; have hx2 := (blk_cell (Sp.blk HS.out (i := 0) rfl).1 2).trans rfl))
       (have HS_ := A0_ (show Sp w [Res.row kC 69 w.heap.size (.slice (some ado) (expI l0 o c i).length ca) (expI l0 o c i)] _ from Sp.tail (Sp.out HS.out 2))); clear HS; (have HS := HS_); clear HS_; (go_roundg k2)
       case measure => omega
       case rel =>
        (rw [HWI.out]); (exact ⟨i + 1, some ado, ca, rfl, by rw [HN.out], ⟨by have := HI6.out; omega, by have := HY.out; omega⟩, ⟨by rw [HN.out]; exact HS.out⟩⟩)
      | true =>
       (rw [c1] at ha); (have n0_ : decide (0 ≤ ra) = true := ha); (have n1_ : (0 ≤ ra) = True := eq_true (of_decide_eq_true ha)); (obtain ⟨Kb, rb, hb, hKb⟩ := HIX.out (expI l0 o c i) x (by have := HFI.out.len; have := HZ.out.2; omega)); (have HKB := A0_ hKb); clear ha hKb
       cases c2 : (expI l0 o c i).contains x with
       | true =>
        (rw [c2] at hb); (have m0_ : decide (rb < 0) = false := decide_eq_false (by have := of_decide_eq_true hb; omega)); (have m1_ : (rb < 0) = False := eq_false (by have := of_decide_eq_true hb; omega)); (have HN := A0_ (show expI l0 o c (i + 1) = expI l0 o c i by rw [HES.out, ← HX6.out]; unfold addO; rw [c1, c2, Bool.not_true, Bool.and_false, if_neg (by simp)])); clear c1 c2 hb
        go_wp2_with (first
         | (go_at_call 102; refine (spec_l09Index.calls Ka (some ad0) c0 l0 x.f0 x.f1 x.f2 ra _ (Kd.C_below HR0.out HS.out.below) HC0.out HKA.out).mono ?_; rintro e wc_ ⟨rfl, hd_⟩; have HS_ := A0_ (Sp.far HS.out hd_); clear HS; have HS := HS_; clear HS_; clear hd_ hx0 hx1 hx2 HKA; have hx0 := (blk_cell (Sp.blk HS.out (i := 0) rfl).1 0).trans rfl; have hx1 := (blk_cell (Sp.blk HS.out (i := 0) rfl).1 1).trans rfl; have hx2 := (blk_cell (Sp.blk HS.out (i := 0) rfl).1 2).trans rfl)
         | (go_at_call 102; refine (spec_l09Index.calls Kb (some ado) ca (expI l0 o c i) x.f0 x.f1 x.f2 rb _ (Sp.reads HS.out (i := 1) rfl).2.2 (Sp.reads HS.out (i := 1) rfl).2.1 HKB.out).mono ?_; rintro e wc_ ⟨rfl, hd_⟩; have HS_ := A0_ (Sp.far HS.out hd_); clear HS; have HS := HS_; clear HS_; clear hd_ hx0 hx1 hx2 HKB; have hx0 := (blk_cell (Sp.blk HS.out (i := 0) rfl).1 0).trans rfl; have hx1 := (blk_cell (Sp.blk HS.out (i := 0) rfl).1 1).trans rfl; have hx2 := (blk_cell (Sp.blk HS.out (i := 0) rfl).1 2).trans rfl))
        (have HS_ := A0_ (show Sp w [Res.row kC 69 w.heap.size (.slice (some ado) (expI l0 o c i).length ca) (expI l0 o c i)] _ from Sp.tail (Sp.out HS.out 2))); clear HS; (have HS := HS_); clear HS_; (go_roundg k2)
        case measure => omega
        case rel =>
         (rw [HWI.out]); (exact ⟨i + 1, some ado, ca, rfl, by rw [HN.out], ⟨by have := HI6.out; omega, by have := HY.out; omega⟩, ⟨by rw [HN.out]; exact HS.out⟩⟩)
       | false =>
        (rw [c2] at hb); (have m0_ : decide (rb < 0) = true := decide_eq_true (by have := of_decide_eq_false hb; omega)); (have m1_ : (rb < 0) = True := eq_true (by have := of_decide_eq_false hb; omega)); (have HN := A0_ (show expI l0 o c (i + 1) = expI l0 o c i ++ [x] by rw [HES.out, ← HX6.out]; unfold addO; rw [c1, c2, Bool.not_false, Bool.and_true, if_pos rfl])); clear c1 c2 hb; (have HS_ := A0_ (show Sp w [Res.blk gx #[.int .i64 x.f0, .int .i64 x.f1, .int .i64 x.f2] 69, Res.row kC 69 w.heap.size (.slice (some ado) (expI l0 o c i).length ca) (expI l0 o c i)] _ from Sp.out HS.out 2)); clear HS; (have HS := HS_); clear HS_
        go_wp2_with (first
         | (go_at_call 102; refine (spec_l09Index.calls Ka (some ad0) c0 l0 x.f0 x.f1 x.f2 ra _ (Kd.C_below HR0.out HS.out.below) HC0.out HKA.out).mono ?_; rintro e wc_ ⟨rfl, hd_⟩; have HS_ := A0_ (Sp.far HS.out hd_); clear HS; have HS := HS_; clear HS_; clear hd_ hx0 hx1 hx2 HKA; have hx0 := (blk_cell (Sp.blk HS.out (i := 0) rfl).1 0).trans rfl; have hx1 := (blk_cell (Sp.blk HS.out (i := 0) rfl).1 1).trans rfl; have hx2 := (blk_cell (Sp.blk HS.out (i := 0) rfl).1 2).trans rfl)
         | (go_at_call 102; refine (spec_l09Index.calls Kb (some ado) ca (expI l0 o c i) x.f0 x.f1 x.f2 rb _ (Sp.reads HS.out (i := 1) rfl).2.2 (Sp.reads HS.out (i := 1) rfl).2.1 HKB.out).mono ?_; rintro e wc_ ⟨rfl, hd_⟩; have HS_ := A0_ (Sp.far HS.out hd_); clear HS; have HS := HS_; clear HS_; clear hd_ hx0 hx1 hx2 HKB; have hx0 := (blk_cell (Sp.blk HS.out (i := 0) rfl).1 0).trans rfl; have hx1 := (blk_cell (Sp.blk HS.out (i := 0) rfl).1 1).trans rfl; have hx2 := (blk_cell (Sp.blk HS.out (i := 0) rfl).1 2).trans rfl)
         | ((with_reducible refine gate_dst (N := 42) rfl ?_); refine Kd.R_lit kC _ 69 ?hg (N := 42) ?hd (xs := [x]) (inner := [.int .i64 x.f0, .int .i64 x.f1, .int .i64 x.f2]) (ok := fun _ => True) (okp := fun _ => True) ?hr ?hp (fun _ hk => hk) trivial (Below.refl _ _) (Nat.le_refl _) (by simp) ?_; (case hd => rfl); (case hg => rfl); (case hr => first | (go_simp; done) | (go_simp; rfl)); (case hp => exact (Reps.c3 (show Kd.M kC _ _ _ x [.int .i64 x.f0, .int .i64 x.f1, .int .i64 x.f2] from k69_mkM _ _ _ x) (Reps.none _ _))); intro vl_ wl_ ho_ hb_ hg_ hn_; clear hg_ hn_; have HS_ := A0_ (Sp.made' HS.out hb_ ho_); clear HS; have HS := HS_; clear HS_; clear ho_ hb_; obtain ⟨Ax, cx, ev_⟩ := Sp.slice HS.out (i := 0) rfl; subst ev_; clear hx0 hx1 hx2)
         | ((with_reducible refine gate_builtin (b := .append) (xs := #[.tmp 40, .tmp 42]) rfl ?_); at_builtin; obtain ⟨fp_, ho_, hf_, hc_⟩ := Sp.row HS.out (i := 2) rfl; refine Kd.R_append_rows kC (w0 := w) w.heap.size rfl (.tmp 40) (.tmp 42) 34 69 ((.agg #[(.int .i64 0), (.int .i64 0), (.int .i64 0)])) 24 rfl Try.underlying34 info69 rfl (by decide) (by omega) (.slice (some ado) (expI l0 o c i).length ca) (expI l0 o c i) ([x]) _ _ _ _ (fun _ => False) rfl rfl ho_ ((Sp.reads HS.out (i := 0) rfl).2.2) (fun _ _ h => h) (fun _ h => h.elim) (fun _ h => Or.inr h) HS.out.below HS.out.below.size ?aL ?_; (case aL => have := HFI.out.len; have := HZ.out.2; simp only [List.length_cons, List.length_nil]; omega); intro va_ wa_ ho hb hg hat; have HS_ := A0_ (hc_ _ _ _ ho hg); clear HS; have HS := HS_; clear HS_; clear ho hb hg hat hc_ hf_ ho_ fp_; obtain ⟨A2, c2_, ev_⟩ := Sp.slice HS.out (i := 2) rfl; subst ev_; rw [← HN.out] at HS))
        (have HS_ := A0_ (show Sp w [Res.row kC 69 w.heap.size (.slice A2 (expI l0 o c (i + 1)).length c2_) (expI l0 o c (i + 1))] _ from Sp.tail (Sp.tail HS.out))); clear HS; (have HS := HS_); clear HS_; (go_roundg k2)
        case measure => omega
        case rel =>
         (rw [HWI.out]); (exact ⟨i + 1, A2, c2_, rfl, by rw [HN.out, List.length_append]; rfl, ⟨by have := HI6.out; omega, by have := HY.out; omega⟩, HS⟩)
    ·(have ci0 : decide (i < 6) = false := decide_eq_false ci); (have ci1 : (i < 6) = False := eq_false ci); (have ci2 : decide ((i : Int) < 6) = false := decide_eq_false (by omega)); (have ci3 : ((i : Int) < 6) = False := eq_false (by omega)); (have hi : i = 6 := by have := HY.out; omega); subst hi; clear ci; go_wp2; (go_roundg k1)
     case measure => omega
     case rel =>
      (rw [HW.out]); (have h1 := (HPR.out 6 (Nat.le_refl _)).1); (exact ⟨k + 1, expI l0 o c 6, A, ca, rfl, rfl, ⟨by omega, HFT.out 6 (Nat.le_refl _), by have := HX.out; omega⟩, ⟨by rw [HFIN.out, HNX.out]⟩, HS⟩)
  ·(have ck0 : decide (k < o.length) = false := decide_eq_false ck)
   have HNX := A0_ (show conP l0 = decide (o.length = l0.length) by
    (rw [HFIN.out]); (have h1 := HX.out.2.1.len); (have h2 := HX.out.1); (rw [show l0.length + 1 - k = (l0.length - k) + 1 from by omega]); (unfold bfsO); (rw [if_neg ck]))
   clear ck; (by_cases ce : o.length = l0.length)
   ·(have ce0 : (o.length == l0.length) = true := by rw [beq_iff_eq]; exact ce); (have ce1 : ((o.length : Int) == (l0.length : Int)) = true := by rw [beq_iff_eq]; omega); (have ce2 := eq_true ce); (rw [decide_eq_true ce] at HNX); clear ce; go_wp2; go_ret; (exact ⟨by rw [HNX.out]; rfl, HS.out.below⟩)
   ·(have ce0 : (o.length == l0.length) = false := by rw [beq_eq_false_iff_ne]; exact ce); (have ce1 : ((o.length : Int) == (l0.length : Int)) = false := by rw [beq_eq_false_iff_ne]; omega); (have ce2 := eq_false ce); (rw [decide_eq_false ce] at HNX); clear ce; go_wp2; go_ret; (exact ⟨by rw [HNX.out]; rfl, HS.out.below⟩)
end Go.Proofs.Ytlbckkagjekhnaa.A

/- HAND spec.IsAssembly (spec.IsAssembly) walked over separate resources; it stands in the place of a printed text. -/
namespace Go.Proofs.Ytlbckkagjekhnaa.A
open Go.RowKit Go.Proofs.YtlbckkagjekhnaaW.PrintWords Go.Proofs.YtlbckkagjekhnaaW.PrintLast Go.Proofs.YtlbckkagjekhnaaW.PrintMore
set_option linter.unusedVariables false
set_option linter.unusedSimpArgs false
def spec_IsAssembly.f (k : Nat) (l : List (List Cb)) : Option Bool := if l.length ≤ 1048576 ∧ ∀ p ∈ l, p.length ≤ 1048576 then some (asmS l) else none
theorem meetS_at (a b : List Cb) (ha : a.length ≤ 1048576) (hb : b.length ≤ 1048576) : ∃ K, spec_l27Meet.f K a b = some (meetS a b) := (smeet_ev a b ha hb).rounds
def sasF.T17 : Bool × List (List Nat × List Nat) := (true, [([], []), ([0], [0]), ([], []), ([1, 2], [1, 2]), ([3], [3]), ([], []), ([5], [5]), ([], []), ([6, 7], [6, 7]), ([8], [8]), ([4, 9], [4, 9])])
def sasF.B17 : List Nat := [0, 1, 0, 7, 15, 0, 32, 0, 224, 480, 1023]
theorem sasF.tab17 : rtab .any (opsOf Try.f54 17) = sasF.T17 := by kernel_rfl
theorem sasF.bits17 : waitsOk sasF.T17.2 sasF.B17 = true := by kernel_rfl
set_option maxHeartbeats 4000000 in
set_option maxRecDepth 100000 in
theorem spec_IsAssembly.calls (k : Nat) (A0 : Option Addr) (c0 : Nat) (l : List (List Cb)) (r : Bool) (w : World) (hr0 : Kd.C (Kd.slice 69 k69) w A0 l.length l) (hc0 : l.length ≤ c0) (h : spec_IsAssembly.f k l = some r) :
    Calls Try.prog 54 #[.agg #[.slice A0 l.length c0]] w fun e w' => e = .returned (.bool r) ∧ Below w.heap.size w w' := by
 (have hu32 := Try.underlying32); (have hu69 := Try.underlying69); (unfold spec_IsAssembly.f at h); (split at h)
 case isFalse => cases h
 (rename_i hz); (obtain rfl := Option.some.inj h); (have HR0 := A0_ hr0); (have HZ := A0_ hz); (have HS := A0_ (Sp.start w)); clear hr0 hz h
 cases hn : inR (l.length : Int) 2 4 with
 | false =>
  (have HF := A0_ (asmS_few l hn)); (have HIN := A0_ ((in_eq (l.length : Int) 2 4).trans (congrArg some hn))); clear hn; (go_enter Try.func54, Try.ntmps54)
  go_wp2_with (first
   | ((with_reducible refine gate_dst (N := 1) rfl ?_); go_loud (refine box_event ?hg (N := 1) ?hd (cs := #[.slice A0 l.length c0]) (t := 32) ?hr ?_; (case hd => rfl); (case hg => rfl); (case hr => first | (go_simp; done) | (go_simp; rfl)); intro ga hgb_ wb_ hcb_ hbb_; have HS_ := A0_ (Sp.boxed HS.out hgb_ hcb_ hbb_); clear HS; have HS := HS_; clear HS_; clear hgb_ hcb_ hbb_; have ha0 := (blk_cell (Sp.blk HS.out (i := 0) rfl).1 0).trans rfl))
   | (go_at_call 45; go_loud (refine (spec_l01In.calls (l.length : Int) 2 4 false _ HIN.out).mono ?_; rintro e wc_ ⟨rfl, hb_⟩; have HS_ := A0_ (Sp.far HS.out hb_.below); clear HS; have HS := HS_; clear HS_; clear hb_ ha0)))
  go_ret; (exact ⟨by rw [HF.out]; rfl, HS.out.below⟩)
 | true =>
 (have HIN := A0_ ((in_eq (l.length : Int) 2 4).trans (congrArg some hn))); (have HL := A0_ (show 2 ≤ l.length ∧ l.length ≤ 4 by unfold inR at hn; rw [Bool.and_eq_true, decide_eq_true_eq, decide_eq_true_eq] at hn; omega)); (have HEND := A0_ (asmS_end l hn)); clear hn; (go_enter Try.func54, Try.ntmps54)
 go_wp2_with (first
  | ((with_reducible refine gate_dst (N := 1) rfl ?_); go_loud (refine box_event ?hg (N := 1) ?hd (cs := #[.slice A0 l.length c0]) (t := 32) ?hr ?_; (case hd => rfl); (case hg => rfl); (case hr => first | (go_simp; done) | (go_simp; rfl)); intro ga hgb_ wb_ hcb_ hbb_; have HS_ := A0_ (Sp.boxed HS.out hgb_ hcb_ hbb_); clear HS; have HS := HS_; clear HS_; clear hgb_ hcb_ hbb_; have ha0 := (blk_cell (Sp.blk HS.out (i := 0) rfl).1 0).trans rfl))
  | (go_at_call 45; go_loud (refine (spec_l01In.calls (l.length : Int) 2 4 true _ HIN.out).mono ?_; rintro e wc_ ⟨rfl, hb_⟩; have HS_ := A0_ (Sp.far HS.out hb_.below); clear HS; have HS := HS_; clear HS_; clear hb_ ha0)))
 go_loopg [3] (l.length + 1) (fun kq v3 w' => ∃ (i : Nat), v3 = .int .i64 (i : Int) ∧ Aside0 (i ≤ l.length ∧ kq + i = l.length + 1 ∧ (List.range i).all (rowOk l) = true) ∧ Aside0 (Sp w [Res.blk ga #[.slice A0 l.length c0] 32] w'))
 case atStart => exact ⟨0, rfl, ⟨by omega, by omega, rfl⟩, HS⟩
 case round =>
  clear HS; (obtain ⟨i, rfl, HX, HS⟩ := hrel); (obtain ⟨k1, rfl⟩ : ∃ k1, gk = k1 + 1 := ⟨gk - 1, by have := HX.out; omega⟩); (have ha0 := (blk_cell (Sp.blk HS.out (i := 0) rfl).1 0).trans rfl); (by_cases ci : i < l.length)
  ·(have ci0 : decide (i < l.length) = true := decide_eq_true ci); (have q0 : (0 ≤ (i : Int)) = True := eq_true (by omega)); (have q1 : ((i : Int) < (l.length : Int)) = True := eq_true (by omega)); (have q2 : (i < l.length) = True := eq_true ci); (have HW := A0_ (wrap_succ i (by have := HL.out; omega))); (have hno := asmS_no l i ci); (have hnx := range_next (rowOk l) i HX.out.2.2); (obtain ⟨adp, Ai, ci_, e, hx0, hx1, hx2⟩ := at_L4 HR0.out (i : Int) (by omega) (by omega)); subst e; (have hpl := HZ.out.2 _ (pAt_mem l i ci)); (rw [show rd_L4 l (i : Int) = pAt l i from rfl] at hx0 hx1 hx2); (rw [Int.toNat_natCast] at hx0); (unfold rowOk at hno hnx); (have HCI := A0_ ci); (obtain ⟨p, hp⟩ : ∃ p, p = pAt l i := ⟨_, rfl⟩); (rw [← hp] at hno hnx hx0 hx1 hx2 hpl); (have HP0 := A0_ hx0); (have HP1 := A0_ hx1); (have HP2 := A0_ hx2); (have HPL := A0_ hpl); (have hxi := pw_cell_below HS.out.below HP0.out); clear ci hp hx0 hx1 hx2
   cases b1 : solP p with
   | false =>
    (have HSO := A0_ (show spec_l09Solid.f 0 p = some false by unfold spec_l09Solid.f; rw [if_pos hpl, b1])); (have HF := A0_ (hno (by rw [b1, Bool.false_and]))); clear hno hnx b1 hpl
    go_wp2_with (first
     | (go_at_call 76; go_loud (refine (spec_l09Solid.calls 0 Ai ci_ p false _ (Kd.C_below HP2.out HS.out.below) HP1.out HSO.out).mono ?_; rintro e wc_ ⟨rfl, hb_⟩; have HS_ := A0_ (Sp.far HS.out hb_); clear HS; have HS := HS_; clear HS_; clear hb_ ha0 hxi)))
    go_ret; (exact ⟨by rw [HF.out]; rfl, HS.out.below⟩)
   | true =>
   (have HSO := A0_ (show spec_l09Solid.f 0 p = some true by unfold spec_l09Solid.f; rw [if_pos hpl, b1]))
   have h1 : 1 ≤ p.length := by
    (unfold solP at b1); (rw [Bool.and_eq_true, Bool.and_eq_true, decide_eq_true_eq] at b1); (exact b1.2.1)
   (rw [b1, Bool.true_and] at hno hnx); clear b1
   cases b2 : conP p with
   | false =>
    (have HCO := A0_ (show spec_l09Connected.f 0 p = some false by unfold spec_l09Connected.f; rw [if_pos ⟨h1, hpl⟩, b2])); (have HF := A0_ (hno (by rw [b2, Bool.false_and]))); clear hno hnx b2 hpl h1
    go_wp2_with (first
     | (go_at_call 76; go_loud (refine (spec_l09Solid.calls 0 Ai ci_ p true _ (Kd.C_below HP2.out HS.out.below) HP1.out HSO.out).mono ?_; rintro e wc_ ⟨rfl, hb_⟩; have HS_ := A0_ (Sp.far HS.out hb_); clear HS; have HS := HS_; clear HS_; clear hb_ ha0 hxi; have ha0 := (blk_cell (Sp.blk HS.out (i := 0) rfl).1 0).trans rfl; have hxi := pw_cell_below HS.out.below HP0.out))
     | (go_at_call 77; go_loud (refine (spec_l09Connected.calls 0 Ai ci_ p false _ (Kd.C_below HP2.out HS.out.below) HP1.out HCO.out).mono ?_; rintro e wc_ ⟨rfl, hb_⟩; have HS_ := A0_ (Sp.far HS.out hb_); clear HS; have HS := HS_; clear HS_; clear hb_ ha0 hxi)))
    go_ret; (exact ⟨by rw [HF.out]; rfl, HS.out.below⟩)
   | true =>
   (have HCO := A0_ (show spec_l09Connected.f 0 p = some true by unfold spec_l09Connected.f; rw [if_pos ⟨h1, hpl⟩, b2])); (rw [b2, Bool.true_and] at hno hnx); (have HNO := A0_ hno); (have HNX := A0_ hnx); clear hno hnx b2 hpl h1
   go_wp2_with (first
    | (go_at_call 76; go_loud (refine (spec_l09Solid.calls 0 Ai ci_ p true _ (Kd.C_below HP2.out HS.out.below) HP1.out HSO.out).mono ?_; rintro e wc_ ⟨rfl, hb_⟩; have HS_ := A0_ (Sp.far HS.out hb_); clear HS; have HS := HS_; clear HS_; clear hb_ ha0 hxi; have ha0 := (blk_cell (Sp.blk HS.out (i := 0) rfl).1 0).trans rfl; have hxi := pw_cell_below HS.out.below HP0.out))
    | (go_at_call 77; go_loud (refine (spec_l09Connected.calls 0 Ai ci_ p true _ (Kd.C_below HP2.out HS.out.below) HP1.out HCO.out).mono ?_; rintro e wc_ ⟨rfl, hb_⟩; have HS_ := A0_ (Sp.far HS.out hb_); clear HS; have HS := HS_; clear HS_; clear hb_ ha0 hxi)))
   go_loopg [4] (p.length + 1) (fun kq v4 w' => ∃ (j : Nat), v4 = .int .i64 (j : Int) ∧ Aside0 (j ≤ p.length ∧ kq + j = p.length + 1 ∧ (List.range j).all (fun c => inCb (cAt p c) 0 7) = true) ∧ Aside0 (Sp w [Res.blk ga #[.slice (some adp) l.length c0] 32] w'))
   case atStart => exact ⟨0, rfl, ⟨by omega, by omega, rfl⟩, HS⟩
   case round =>
    clear HS; (obtain ⟨j, rfl, HY, HS⟩ := hrel); (obtain ⟨k2, rfl⟩ : ∃ k2, gk = k2 + 1 := ⟨gk - 1, by have := HY.out; omega⟩); (have ha0 := (blk_cell (Sp.blk HS.out (i := 0) rfl).1 0).trans rfl); (have hxi := pw_cell_below HS.out.below HP0.out); (by_cases cj : j < p.length)
    ·(have cj0 : decide (j < p.length) = true := decide_eq_true cj); (have p0 : (0 ≤ (j : Int)) = True := eq_true (by omega)); (have p1 : ((j : Int) < (p.length : Int)) = True := eq_true (by omega)); (have p2 : (j < p.length) = True := eq_true cj); (have HWJ := A0_ (wrap_succ j (by have := HPL.out; omega)))
     have HNJ := A0_ (range_next (fun c => inCb (cAt p c) 0 7) j HY.out.2.2)
     have HBJ := A0_ (fun h => HNO.out (by rw [range_no (fun c => inCb (cAt p c) 0 7) p.length j cj h, Bool.false_and]))
     (obtain ⟨adc, e, hx0, hx1, hx2⟩ := at_T69 (Kd.C_below HP2.out HS.out.below) (j : Int) (by omega) (by omega)); subst e; (rw [show rd_T69 p (j : Int) = cAt p j from rfl] at hx0 hx1 hx2); (rw [Int.toNat_natCast] at hx0 hx1 hx2); (have HCJ := A0_ cj); (obtain ⟨c, hc⟩ : ∃ c, c = cAt p j := ⟨_, rfl⟩); (rw [← hc] at hx0 hx1 hx2 HNJ HBJ); clear cj hc
     have hin : ∀ x : Int, spec_l01In.f x 0 7 = some (inR x 0 7) := fun x => in_eq x 0 7
     cases b0 : inR c.f0 0 7 with
     | false =>
      (have HB0 := A0_ ((hin c.f0).trans (congrArg some b0))); (have HF := A0_ (HBJ.out (by unfold inCb; rw [b0]; rfl))); clear b0 hin HNJ HBJ
      go_wp2_with (first
       | (go_at_call 45; obtain ⟨gc, hg_⟩ : ∃ g_, g_ = (wr).heap.size := ⟨_, rfl⟩; obtain ⟨wx, hw_⟩ : ∃ w_, w_ = (wr).alloc (.cells #[.int .i64 c.f0, .int .i64 c.f1, .int .i64 c.f2] 69) := ⟨_, rfl⟩; (try rw [← hw_]); (try rw [← hg_]); have HS_ := A0_ (Sp.box HS.out #[.int .i64 c.f0, .int .i64 c.f1, .int .i64 c.f2] 69); rw [← hw_, ← hg_] at HS_; clear HS; have HS := HS_; clear HS_ hw_ hg_; refine (spec_l01In.calls c.f0 0 7 false _ HB0.out).mono ?_; rintro e wc_ ⟨rfl, hb_⟩; have HS_ := A0_ (Sp.far HS.out hb_.below); clear HS; have HS := HS_; clear HS_; clear hb_ ha0 hxi hx0 hx1 hx2))
      go_ret; (exact ⟨by rw [HF.out]; rfl, HS.out.below⟩)
     | true =>
     (have HB0 := A0_ ((hin c.f0).trans (congrArg some b0)))
     cases b1 : inR c.f1 0 7 with
     | false =>
      (have HB1 := A0_ ((hin c.f1).trans (congrArg some b1))); (have HF := A0_ (HBJ.out (by unfold inCb; rw [b0, b1]; rfl))); clear b0 b1 hin HNJ HBJ
      go_wp2_with (first
       | (go_at_call 45; obtain ⟨gc, hg_⟩ : ∃ g_, g_ = (wr).heap.size := ⟨_, rfl⟩; obtain ⟨wx, hw_⟩ : ∃ w_, w_ = (wr).alloc (.cells #[.int .i64 c.f0, .int .i64 c.f1, .int .i64 c.f2] 69) := ⟨_, rfl⟩; (try rw [← hw_]); (try rw [← hg_]); have HS_ := A0_ (Sp.box HS.out #[.int .i64 c.f0, .int .i64 c.f1, .int .i64 c.f2] 69); rw [← hw_, ← hg_] at HS_; clear HS; have HS := HS_; clear HS_ hw_ hg_; refine (spec_l01In.calls c.f0 0 7 true _ HB0.out).mono ?_; rintro e wc_ ⟨rfl, hb_⟩; have HS_ := A0_ (Sp.far HS.out hb_.below); clear HS; have HS := HS_; clear HS_; clear hb_ ha0 hxi hx0 hx1 hx2 HB0; have hc1 := (blk_cell (Sp.blk HS.out (i := 0) rfl).1 1).trans rfl)
       | (go_at_call 45; go_loud (refine (spec_l01In.calls c.f1 0 7 false _ HB1.out).mono ?_; rintro e wc_ ⟨rfl, hb_⟩; have HS_ := A0_ (Sp.far HS.out hb_.below); clear HS; have HS := HS_; clear HS_; clear hb_ hc1)))
      go_ret; (exact ⟨by rw [HF.out]; rfl, HS.out.below⟩)
     | true =>
     (have HB1 := A0_ ((hin c.f1).trans (congrArg some b1)))
     cases b2 : inR c.f2 0 7 with
     | false =>
      (have HB2 := A0_ ((hin c.f2).trans (congrArg some b2))); (have HF := A0_ (HBJ.out (by unfold inCb; rw [b0, b1, b2]; rfl))); clear b0 b1 b2 hin HNJ HBJ
      go_wp2_with (first
       | (go_at_call 45; obtain ⟨gc, hg_⟩ : ∃ g_, g_ = (wr).heap.size := ⟨_, rfl⟩; obtain ⟨wx, hw_⟩ : ∃ w_, w_ = (wr).alloc (.cells #[.int .i64 c.f0, .int .i64 c.f1, .int .i64 c.f2] 69) := ⟨_, rfl⟩; (try rw [← hw_]); (try rw [← hg_]); have HS_ := A0_ (Sp.box HS.out #[.int .i64 c.f0, .int .i64 c.f1, .int .i64 c.f2] 69); rw [← hw_, ← hg_] at HS_; clear HS; have HS := HS_; clear HS_ hw_ hg_; refine (spec_l01In.calls c.f0 0 7 true _ HB0.out).mono ?_; rintro e wc_ ⟨rfl, hb_⟩; have HS_ := A0_ (Sp.far HS.out hb_.below); clear HS; have HS := HS_; clear HS_; clear hb_ ha0 hxi hx0 hx1 hx2 HB0; have hc1 := (blk_cell (Sp.blk HS.out (i := 0) rfl).1 1).trans rfl; have hc2 := (blk_cell (Sp.blk HS.out (i := 0) rfl).1 2).trans rfl)
       | (go_at_call 45; go_loud (refine (spec_l01In.calls c.f1 0 7 true _ HB1.out).mono ?_; rintro e wc_ ⟨rfl, hb_⟩; have HS_ := A0_ (Sp.far HS.out hb_.below); clear HS; have HS := HS_; clear HS_; clear hb_ hc1 hc2 HB1; have hc2 := (blk_cell (Sp.blk HS.out (i := 0) rfl).1 2).trans rfl))
       | (go_at_call 45; go_loud (refine (spec_l01In.calls c.f2 0 7 false _ HB2.out).mono ?_; rintro e wc_ ⟨rfl, hb_⟩; have HS_ := A0_ (Sp.far HS.out hb_.below); clear HS; have HS := HS_; clear HS_; clear hb_ hc2)))
      go_ret; (exact ⟨by rw [HF.out]; rfl, HS.out.below⟩)
     | true =>
     (have HB2 := A0_ ((hin c.f2).trans (congrArg some b2))); (have HN := A0_ (HNJ.out (by unfold inCb; rw [b0, b1, b2]; rfl))); clear b0 b1 b2 hin HNJ HBJ
     go_wp2_with (first
      | (go_at_call 45; obtain ⟨gc, hg_⟩ : ∃ g_, g_ = (wr).heap.size := ⟨_, rfl⟩; obtain ⟨wx, hw_⟩ : ∃ w_, w_ = (wr).alloc (.cells #[.int .i64 c.f0, .int .i64 c.f1, .int .i64 c.f2] 69) := ⟨_, rfl⟩; (try rw [← hw_]); (try rw [← hg_]); have HS_ := A0_ (Sp.box HS.out #[.int .i64 c.f0, .int .i64 c.f1, .int .i64 c.f2] 69); rw [← hw_, ← hg_] at HS_; clear HS; have HS := HS_; clear HS_ hw_ hg_; refine (spec_l01In.calls c.f0 0 7 true _ HB0.out).mono ?_; rintro e wc_ ⟨rfl, hb_⟩; have HS_ := A0_ (Sp.far HS.out hb_.below); clear HS; have HS := HS_; clear HS_; clear hb_ ha0 hxi hx0 hx1 hx2 HB0; have hc1 := (blk_cell (Sp.blk HS.out (i := 0) rfl).1 1).trans rfl; have hc2 := (blk_cell (Sp.blk HS.out (i := 0) rfl).1 2).trans rfl)
      | (go_at_call 45; go_loud (refine (spec_l01In.calls c.f1 0 7 true _ HB1.out).mono ?_; rintro e wc_ ⟨rfl, hb_⟩; have HS_ := A0_ (Sp.far HS.out hb_.below); clear HS; have HS := HS_; clear HS_; clear hb_ hc1 hc2 HB1; have hc2 := (blk_cell (Sp.blk HS.out (i := 0) rfl).1 2).trans rfl))
      | (go_at_call 45; go_loud (refine (spec_l01In.calls c.f2 0 7 true _ HB2.out).mono ?_; rintro e wc_ ⟨rfl, hb_⟩; have HS_ := A0_ (Sp.far HS.out hb_.below); clear HS; have HS := HS_; clear HS_; clear hb_ hc2 HB2)))
     (have HS_ := A0_ (Sp.tail HS.out)); clear HS; (have HS := HS_); clear HS_; (go_roundg k2)
     case measure => omega
     case rel =>
      (rw [HWJ.out]); (exact ⟨j + 1, rfl, ⟨by have := HCJ.out; omega, by have := HY.out; omega, HN.out⟩, HS⟩)
    ·(have cj0 : decide (j < p.length) = false := decide_eq_false cj); (have cj1 : (j < p.length) = False := eq_false cj); (have hj : j = p.length := by have := HY.out; omega); (have HALL := A0_ (hj ▸ HY.out.2.2)); (have hno := HNO.out); (have hnx := HNX.out); (rw [HALL.out, Bool.true_and] at hno hnx); (have HNO2 := A0_ hno); (have HNX2 := A0_ hnx); clear cj hj hno hnx HNO HNX HALL; go_wp2; clear hxi ha0
     go_loopg [6] (i + 1) (fun kq v6 w' => ∃ (j : Nat), v6 = .int .i64 (j : Int) ∧ Aside0 (j ≤ i ∧ kq + j = i + 1 ∧ (List.range j).all (fun q => !meetS p (pAt l q)) = true) ∧ Aside0 (Sp w [Res.blk ga #[.slice (some adp) l.length c0] 32] w'))
     case atStart => exact ⟨0, rfl, ⟨by omega, by omega, rfl⟩, HS⟩
     case round =>
      clear HS; (obtain ⟨j, rfl, HY2, HS⟩ := hrel); (obtain ⟨k2, rfl⟩ : ∃ k2, gk = k2 + 1 := ⟨gk - 1, by have := HY2.out; omega⟩); (by_cases cj : j < i)
      ·(have cj0 : decide (j < i) = true := decide_eq_true cj); (have p0 : (0 ≤ (j : Int)) = True := eq_true (by omega)); (have p1 : ((j : Int) < (l.length : Int)) = True := eq_true (by have := HCI.out; omega)); (have p2 : (j < l.length) = True := eq_true (by have := HCI.out; omega)); (have HWJ := A0_ (wrap_succ j (by have := HL.out; have := HCI.out; omega)))
       have HNJ := A0_ (range_next (fun q => !meetS p (pAt l q)) j HY2.out.2.2)
       have HBJ := A0_ (fun h => HNO2.out (range_no (fun q => !meetS p (pAt l q)) i j cj h))
       (obtain ⟨ad2, Aj, cj_, e, hx0, hx1, hx2⟩ := at_L4 HR0.out (j : Int) (by omega) (by have := HCI.out; omega)); (injection e with e); subst e; (have hpl := HZ.out.2 _ (pAt_mem l j (by have := HCI.out; omega))); (rw [show rd_L4 l (j : Int) = pAt l j from rfl] at hx0 hx1 hx2); (rw [Int.toNat_natCast] at hx0); (have HCJ := A0_ cj); (try dsimp only at HNJ HBJ); (obtain ⟨pj, hpj⟩ : ∃ pj, pj = pAt l j := ⟨_, rfl⟩); (rw [← hpj] at hx0 hx1 hx2 HNJ HBJ hpl); (have HJ0 := A0_ hx0); (have HJ1 := A0_ hx1); (have HJ2 := A0_ hx2); (obtain ⟨KM, hKM⟩ := meetS_at p pj HPL.out hpl); (have HME := A0_ hKM); clear cj hpj hx0 hx1 hx2 hKM hpl; (have HS_ := A0_ (show Sp w ([Res.blk ga #[.slice (some adp) l.length c0] 32] ++ ([] : List Res)) wr.drew from Sp.drew HS.out)); clear HS; (have HS := HS_); clear HS_; go_wp2
       refine start_ (n := 11) (S := fun w' => w'.cell? ⟨ga, 0, none⟩ = some (.slice (some adp) l.length c0) ∧ w'.cell? (adp.add i) = some (.slice Ai p.length ci_) ∧ w'.cell? (adp.add j) = some (.slice Aj pj.length cj_)) (ds := []) #[ff,ff,ff,ff,ff,ff,ff,ff,ff,ff,ff] (by kernel_rfl) rfl rfl (⟨(blk_cell (Sp.blk HS.out (i := 0) rfl).1 0).trans rfl, pw_cell_below HS.out.below HP0.out, pw_cell_below HS.out.below HJ0.out⟩) (fun hHeld => ?_)
       refine with_tabW sasF.tab17 sasF.bits17 (fun HT_ HW_ => ?_)
       (generalize wr.drew = wD at HS hHeld ⊢); (refine on_ 0 (some 74) ?_); (refine tk_ 1 (some 75) ?_); (refine on_ 2 (some 76) ?_); (refine on_ 3 (some 77) ?_); (refine tk_ 4 (some 78) ?_); (refine on_ 5 (some 79) ?_); (refine tk_ 6 (some 80) ?_); (refine on_ 7 (some 81) ?_); (refine on_ 8 (some 82) ?_); (refine tk_ 9 (some 83) ?_)
       refine o1_ 10 (some 84) (fun K hK => ?_)
       (refine goes_ Try.func78 (by kernel_rfl) rfl #[.slice Ai p.length ci_, .slice Aj pj.length cj_] (by rfl) rfl rfl (by (try simp only [List.map_toArray, List.map_cons, List.map_nil]); first | done | rfl | (simp only [List.length_drop, List.length_take]; rfl)) ?_); (refine (spec_l27Meet.calls KM Ai ci_ p Aj cj_ pj (meetS p pj) _ (Kd.C_below HP2.out HS.out.below) HP1.out (Kd.C_below HJ2.out HS.out.below) HJ1.out HME.out).mono ?_); (rintro e wA11 ⟨rfl, hb⟩); (refine ⟨_, rfl, ?_⟩); (have HS_ := A0_ (Sp.far HS.out hb)); clear HS; (have HS := HS_); clear HS_; clear hb
       refine hK.out _ _ (⟨(blk_cell (Sp.blk HS.out (i := 0) rfl).1 0).trans rfl, pw_cell_below HS.out.below HP0.out, pw_cell_below HS.out.below HJ0.out⟩) (fun hHeld => ?_)
       clear hK K; (refine nm_ (some 84) ?_); (refine dn_ ?_)
       cases hm : meetS p pj with
       | true =>
        (have HF := A0_ (HBJ.out (by rw [hm]; rfl))); clear HNJ HBJ; (try rw [hm]); go_wp2; go_ret; (exact ⟨by rw [HF.out]; rfl, HS.out.below⟩)
       | false =>
        (have HN := A0_ (HNJ.out (by rw [hm]; rfl))); clear HNJ HBJ; (try rw [hm]); go_wp2; (go_roundg k2)
        case measure => omega
        case rel =>
         (rw [HWJ.out]); (exact ⟨j + 1, rfl, ⟨by have := HCJ.out; omega, by have := HY2.out; omega, HN.out⟩, HS⟩)
      ·(have cj0 : decide (j < i) = false := decide_eq_false cj); (have cj1 : (j < i) = False := eq_false cj); (have hj : j = i := by have := HY2.out; omega); (have HN := A0_ (HNX2.out (hj ▸ HY2.out.2.2))); clear cj hj; go_wp2; (go_roundg k1)
       case measure => omega
       case rel =>
        (rw [HW.out]); (exact ⟨i + 1, rfl, ⟨by have := HCI.out; omega, by have := HX.out; omega, HN.out⟩, HS⟩)
  ·(have ci0 : decide (i < l.length) = false := decide_eq_false ci); (have ci1 : (i < l.length) = False := eq_false ci); (have hi : i = l.length := by have := HX.out; omega); (have HF := A0_ (HEND.out (hi ▸ HX.out.2.2))); clear ci hi; go_wp2; go_ret; (exact ⟨by rw [HF.out]; rfl, HS.out.below⟩)
end Go.Proofs.Ytlbckkagjekhnaa.A

/- The statement's IsAssembly answers the program's plain word. No program in sight. -/
namespace Go.Proofs.Ytlbckkagjekhnaa.A
open Go.RowKit Go.Proofs.YtlbckkagjekhnaaW.PrintWords Go.Proofs.YtlbckkagjekhnaaW.PrintLast Go.Proofs.YtlbckkagjekhnaaW.PrintMore
set_option linter.unusedVariables false
set_option linter.unusedSimpArgs false
theorem add_zero_in (c : Cb) (h : inCb c 0 7 = true) : addC c ⟨0, 0, 0⟩ = c := by
  rw [inCb_iff] at h
  unfold addC
  rw [wrap_id (by simp; omega) (by simp; omega), wrap_id (by simp; omega) (by simp; omega), wrap_id (by simp; omega) (by simp; omega)]
  simp
theorem map_zero_in (p : List Cb) (h : ∀ c ∈ p, inCb c 0 7 = true) : (p.map fun c => addC c ⟨0, 0, 0⟩) = p := by
  have : p.map (fun c => addC c ⟨0, 0, 0⟩) = p.map id := List.map_congr_left (fun c hc => add_zero_in c (h c hc))
  rw [this, List.map_id]
theorem all_at (p : List Cb) (q : Cb → Bool) : (List.range p.length).all (fun c => q (cAt p c)) = p.all q := by
  rw [Bool.eq_iff_iff, List.all_eq_true, List.all_eq_true]
  constructor
  · intro h c hc
    obtain ⟨i, hi, rfl⟩ := List.mem_iff_getElem.1 hc
    have := h i (List.mem_range.2 hi)
    rw [show cAt p i = p[i] by simp [cAt, List.getD_eq_getElem?_getD, hi]] at this
    exact this
  · intro h i hi
    have hl := List.mem_range.1 hi
    rw [show cAt p i = p[i] by simp [cAt, List.getD_eq_getElem?_getD, hl]]
    exact h _ (List.getElem_mem _)
theorem any_not_all (p : List Cb) (q : Cb → Bool) : (!p.any fun c => !q c) = p.all q := by
  rw [Bool.eq_iff_iff]
  simp
theorem part_ok (sol con : List Cb → Bool) (p : List Cb) (h : partOk sol con p = true) : sol p = true ∧ con p = true ∧ ∀ c ∈ p, inCb c 0 7 = true := by
  unfold partOk at h
  rw [any_not_all, Bool.and_eq_true, Bool.and_eq_true, List.all_eq_true] at h
  exact ⟨h.1, h.2.1, h.2.2⟩
theorem asm_eq (parts : List (List Cb)) : (parts.all (partOk solP conP) && clearP parts (zerosC parts.length)) = (List.range parts.length).all (rowOk parts) := by
  by_cases c : parts.all (partOk solP conP) = true
  · rw [c, Bool.true_and]
    have hp : ∀ p ∈ parts, partOk solP conP p = true := List.all_eq_true.1 c
    have hzl : (zerosC parts.length).length = parts.length := List.length_replicate
    unfold clearP
    rw [hzl, Bool.eq_iff_iff, List.all_eq_true, List.all_eq_true]
    refine forall_congr' fun i => forall_congr' fun hi => ?_
    have hlt := List.mem_range.1 hi
    rw [show (zerosC parts.length).getD i ⟨0, 0, 0⟩ = oAt (zerosC parts.length) i from rfl, alone_eq parts _ i (by omega)]
    obtain ⟨a1, a2, a3⟩ := part_ok _ _ _ (hp _ (pAt_mem parts i hlt))
    unfold rowOk
    rw [a1, a2, all_at (pAt parts i) (fun c => inCb c 0 7), List.all_eq_true.2 a3, Bool.true_and, Bool.true_and, Bool.true_and]
    have : ∀ j ∈ List.range i, (!pairT parts (zerosC parts.length) i j) = (!meetS (pAt parts i) (pAt parts j)) := fun j hj => by
      have hj' := List.mem_range.1 hj
      obtain ⟨_, _, b3⟩ := part_ok _ _ _ (hp _ (pAt_mem parts j (by omega)))
      congr 1
      unfold pairT touchP meetS
      rw [zeros_at, zeros_at, ← pair_same _ _ _ _ a3 b3 (by decide) (by decide), map_zero_in _ a3, map_zero_in _ b3]
    rw [List.all_eq_true, List.all_eq_true]
    constructor
    · intro h j hj
      rw [← this j hj]; exact h j hj
    · intro h j hj
      rw [this j hj]; exact h j hj
  · have h0 := Bool.eq_false_iff.mpr c
    rw [h0, Bool.false_and]
    symm
    rw [Bool.eq_false_iff]
    intro hall
    rw [List.all_eq_true] at hall
    refine c (List.all_eq_true.2 fun p hp => ?_)
    obtain ⟨i, hi, rfl⟩ := List.mem_iff_getElem.1 hp
    have h1 := hall i (List.mem_range.2 hi)
    have e : pAt parts i = parts[i] := by unfold pAt partAt; simp [hi]
    unfold rowOk at h1
    rw [e, all_at parts[i] (fun c => inCb c 0 7), Bool.and_eq_true, Bool.and_eq_true, Bool.and_eq_true] at h1
    unfold partOk
    rw [any_not_all, h1.1, h1.2.1, h1.2.2.1]
    rfl
theorem asm_same (parts : List (List Cb)) : asmS parts = isAsmP solP conP parts := by
  unfold asmS isAsmP
  rw [asm_eq]
end Go.Proofs.Ytlbckkagjekhnaa.A

