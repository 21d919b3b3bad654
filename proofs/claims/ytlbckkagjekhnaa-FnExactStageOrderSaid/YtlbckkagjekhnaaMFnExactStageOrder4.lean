/- What the row of the law FnExactStageOrder stands on, part 4. -/
import Derived.Test.YtlbckkagjekhnaaMFnExactStageOrder3
namespace Go.Proofs.Ytlbckkagjekhnaa.A
open Go.RowKit Go.Proofs.YtlbckkagjekhnaaW.PrintWords Go.Proofs.YtlbckkagjekhnaaW.PrintLast Go.Proofs.YtlbckkagjekhnaaW.PrintMore
attribute [local go_sem] max2_int min2_int max_two min_two max_three min_three max_four min_four   -- for this text's walks alone
set_option linter.unusedVariables false
set_option linter.unusedSimpArgs false
def laws_eqCubeS.l0 : Nat → List (S69) → List (S69) → Int → Option (Bool)
  | 0, _, _, _ => none
  | k + 1, x0, x1, x5 => if x5 < (x0.length : Int) then (if 0 ≤ x5 then (if x5 < (x1.length : Int) then ((laws_eqCube.f ((rd_T69 x0 x5).f0) ((rd_T69 x0 x5).f1) ((rd_T69 x0 x5).f2) ((rd_T69 x1 x5).f0) ((rd_T69 x1 x5).f1) ((rd_T69 x1 x5).f2)).bind fun t325 => (if t325 = true then (laws_eqCubeS.l0 k x0 x1 (wrap64 (x5 + 1))) else (some false))) else (none)) else (none)) else (some true)
def laws_eqCubeS.f (k : Nat) (l0 : List (S69)) (l1 : List (S69)) : Option (Bool) := if (l0.length : Int) = (l1.length : Int) then (laws_eqCubeS.l0 k l0 l1 0) else (some false)
def laws_eqCubeS.T6 : Bool × List (List Nat × List Nat) := (true, [([], []), ([], []), ([0, 1], [0, 1]), ([2], [2]), ([], []), ([], []), ([4, 5], [4, 5]), ([6], [6]), ([3, 7], [3, 7]), ([8], [8])])
def laws_eqCubeS.B6 : List Nat := [0, 0, 3, 7, 0, 0, 48, 112, 255, 511]
theorem laws_eqCubeS.tab6 : rtab .any (opsOf Try.f18 6) = laws_eqCubeS.T6 := by kernel_rfl
theorem laws_eqCubeS.bits6 : waitsOk laws_eqCubeS.T6.2 laws_eqCubeS.B6 = true := by kernel_rfl
set_option maxHeartbeats 8000000 in
set_option maxRecDepth 100000 in
theorem laws_eqCubeS.calls (k : Nat) (A0 : Option Addr) (c0 : Nat) (l0 : List (S69)) (A1 : Option Addr) (c1 : Nat) (l1 : List (S69)) (r : Bool) (w : World) (hr0 : Kd.C k69 w A0 l0.length l0) (hc0 : l0.length ≤ c0) (hr1 : Kd.C k69 w A1 l1.length l1) (hc1 : l1.length ≤ c1) (h : laws_eqCubeS.f k l0 l1 = some r) :
    Calls Try.prog 18 #[.slice A0 l0.length c0, .slice A1 l1.length c1] w fun e w' => e = .returned (.bool r) ∧ Below w.heap.size w w' := by
 (have hu69 := Try.underlying69); (have HR0 := A0_ hr0); (have HC0 := A0_ hc0); clear hr0 hc0; (have HR1 := A0_ hr1); (have HC1 := A0_ hc1); clear hr1 hc1; (have HB := A0_ (Below.refl w.heap.size w)); (have H : (if (l0.length : Int) = (l1.length : Int) then (laws_eqCubeS.l0 k l0 l1 0) else (some false)) = some r := h); clear h; (by_cases c3 : (l0.length : Int) = (l1.length : Int))
 ·(rw [if_pos c3] at H); (have c3b0 : ((l0.length : Int) == (l1.length : Int)) = true := beq_iff_eq.mpr c3); (have c3b1 : ((l0.length : Int) != (l1.length : Int)) = false := bne_eq_false_iff_eq.mpr c3); (have c3b2 : (l0.length == l1.length) = true := by first | simpa using c3 | (simp at c3 ⊢; omega)); clear c3; (have H' := A0_ H); clear H; (go_enter Try.func18, Try.ntmps18); go_wp2
  go_loopg [5] k (fun kq v5 w' => ∃ (x5_1 : Int), v5 = .int .i64 x5_1 ∧ Aside0 (laws_eqCubeS.l0 kq l0 l1 x5_1 = some r) ∧ Aside0 (kq ≤ k) ∧ Aside0 (Below w.heap.size w w'))
  case atStart => exact ⟨(0), (by first | rfl | (simp; done) | (simp [*]; done)), H', ⟨Nat.le_refl _⟩, ⟨by repeat (first | (with_reducible first | exact HB.out | apply ba_ | apply bn_ | apply bd_) | exact HB.out)⟩⟩
  case round =>
   clear H'; (try clear c1); (try clear p2); (try clear c3); (try clear c3b0); (try clear c3b1); (try clear c3b2); (obtain ⟨x5_1, rfl, HA, HK1, HB⟩ := hrel)
   cases gk with
   | zero => exact absurd HA.out (by simp [laws_eqCubeS.l0])
   | succ k1 =>
    (have H := HA.out); clear HA; (simp only [laws_eqCubeS.l0] at H); (by_cases c4 : x5_1 < (l0.length : Int))
    ·(rw [if_pos c4] at H); (have c4b0 : decide (x5_1 < (l0.length : Int)) = true := decide_eq_true c4); clear c4; (by_cases c5 : 0 ≤ x5_1)
     ·(rw [if_pos c5] at H); (have c5b0 : decide (0 ≤ x5_1) = true := decide_eq_true c5); clear c5; (by_cases c6 : x5_1 < (l1.length : Int))
      ·(rw [if_pos c6] at H); (have c6b0 : decide (x5_1 < (l1.length : Int)) = true := decide_eq_true c6); clear c6; (replace H := Option.bind_eq_some_iff.mp H); (obtain ⟨t325, A70, H⟩ := H); (try dsimp only at H); (have A7 := A0_ A70); clear A70; (by_cases c8 : t325 = true)
       ·subst c8; (have H1 := H); (rw [if_pos rfl] at H1); clear H; (have H := H1); clear H1; (have H' := A0_ H); clear H; (try go_wp2); (have n0_ := A0_ (below_drew1 HB.out)); clear HB; (have HB := n0_); clear n0_; (have p323 : 0 ≤ (x5_1 : Int) := of_decide_eq_true (by first | (with_reducible assumption) | assumption)); (have q323 : x5_1 < (l0.length : Int) := of_decide_eq_true (by first | (with_reducible assumption) | assumption)); (obtain ⟨ad323, e323, hx323_0, hx323_1, hx323_2⟩ := at_T69 HR0.out x5_1 p323 q323); (have hw323_2 := hx323_2); (have hw323_1 := hx323_1); (have hw323_0 := hx323_0); (cases e323); (replace hx323_0 := (HB.out.cell (World.block_lt_of_cell? w _ hx323_0)).trans hx323_0); (replace hx323_1 := (HB.out.cell (World.block_lt_of_cell? w _ hx323_1)).trans hx323_1); (replace hx323_2 := (HB.out.cell (World.block_lt_of_cell? w _ hx323_2)).trans hx323_2); (replace p323 := eq_true p323); (replace q323 := eq_true q323); (have p324 : 0 ≤ (x5_1 : Int) := of_decide_eq_true (by first | (with_reducible assumption) | assumption)); (have q324 : x5_1 < (l1.length : Int) := of_decide_eq_true (by first | (with_reducible assumption) | assumption)); (obtain ⟨ad324, e324, hx324_0, hx324_1, hx324_2⟩ := at_T69 HR1.out x5_1 p324 q324); (have hw324_2 := hx324_2); (have hw324_1 := hx324_1); (have hw324_0 := hx324_0); (cases e324); (replace hx324_0 := (HB.out.cell (World.block_lt_of_cell? w _ hx324_0)).trans hx324_0); (replace hx324_1 := (HB.out.cell (World.block_lt_of_cell? w _ hx324_1)).trans hx324_1); (replace hx324_2 := (HB.out.cell (World.block_lt_of_cell? w _ hx324_2)).trans hx324_2); (replace p324 := eq_true p324); (replace q324 := eq_true q324)
        refine start_ (n := 10) (S := fun w' => w'.cell? (ad323.add ((x5_1).toNat * 3)) = some (.int .i64 ((rd_T69 l0 x5_1).f0)) ∧ w'.cell? ⟨(ad323.add ((x5_1).toNat * 3)).block, (ad323.add ((x5_1).toNat * 3)).off + 1, none⟩ = some (.int .i64 ((rd_T69 l0 x5_1).f1)) ∧ w'.cell? ⟨(ad323.add ((x5_1).toNat * 3)).block, (ad323.add ((x5_1).toNat * 3)).off + 2, none⟩ = some (.int .i64 ((rd_T69 l0 x5_1).f2)) ∧ w'.cell? (ad324.add ((x5_1).toNat * 3)) = some (.int .i64 ((rd_T69 l1 x5_1).f0)) ∧ w'.cell? ⟨(ad324.add ((x5_1).toNat * 3)).block, (ad324.add ((x5_1).toNat * 3)).off + 1, none⟩ = some (.int .i64 ((rd_T69 l1 x5_1).f1)) ∧ w'.cell? ⟨(ad324.add ((x5_1).toNat * 3)).block, (ad324.add ((x5_1).toNat * 3)).off + 2, none⟩ = some (.int .i64 ((rd_T69 l1 x5_1).f2))) (ds := []) #[ff,ff,ff,ff,ff,ff,ff,ff,ff,ff] (by kernel_rfl) rfl rfl ⟨((HB.out.cell (World.block_lt_of_cell? w _ hw323_0)).trans hw323_0), ((HB.out.cell (World.block_lt_of_cell? w _ hw323_1)).trans hw323_1), ((HB.out.cell (World.block_lt_of_cell? w _ hw323_2)).trans hw323_2), ((HB.out.cell (World.block_lt_of_cell? w _ hw324_0)).trans hw324_0), ((HB.out.cell (World.block_lt_of_cell? w _ hw324_1)).trans hw324_1), ((HB.out.cell (World.block_lt_of_cell? w _ hw324_2)).trans hw324_2)⟩ (fun hHeld => ?_); refine with_tabW laws_eqCubeS.tab6 laws_eqCubeS.bits6 (fun HT_ HW_ => ?_)
        (generalize wr.drew = w9 at HB hx323_0 hx323_1 hx323_2 hx324_0 hx324_1 hx324_2 hHeld ⊢)
        refine pure_ (i := 0) (N := some 17) (v := ?_) (a' := ?_) #[tt,ff,ff,ff,ff,ff,ff,ff,ff,ff] rfl rfl (any_of HT_.out (by kernel_rfl)) (fun _ _ _ h => h) (Or.inl ⟨by rfl, ?_⟩) ?_ ?_
        rotate_left
        ·intro w'; go_simp; with_reducible rfl
        rotate_left
        ·(simp only [Act.put, sia_, sz_, ss_, i64_w, i32_w]); rfl
        refine pure_ (i := 1) (N := some 18) (v := ?_) (a' := ?_) #[tt,tt,ff,ff,ff,ff,ff,ff,ff,ff] rfl rfl (any_of HT_.out (by kernel_rfl)) (fun _ _ _ h => h) (Or.inl ⟨by rfl, ?_⟩) ?_ ?_
        rotate_left
        ·intro w'; go_simp; with_reducible rfl
        rotate_left
        ·(simp only [Act.put, sia_, sz_, ss_, i64_w, i32_w]); rfl
        refine pure_ (i := 2) (N := some 19) (v := ?_) (a' := ?_) #[tt,tt,tt,ff,ff,ff,ff,ff,ff,ff] rfl rfl (any_of HT_.out (by kernel_rfl)) (fun _ _ _ h => h) (Or.inl ⟨by rfl, ?_⟩) ?_ ?_
        rotate_left
        ·intro w'; go_simp; with_reducible rfl
        rotate_left
        ·(simp only [Act.put, sia_, sz_, ss_, i64_w, i32_w]); rfl
        refine pure_ (i := 4) (N := some 21) (v := ?_) (a' := ?_) #[tt,tt,tt,ff,tt,ff,ff,ff,ff,ff] rfl rfl (any_of HT_.out (by kernel_rfl)) (fun _ _ _ h => h) (Or.inl ⟨by rfl, ?_⟩) ?_ ?_
        rotate_left
        ·intro w'; go_simp; with_reducible rfl
        rotate_left
        ·(simp only [Act.put, sia_, sz_, ss_, i64_w, i32_w]); rfl
        refine pure_ (i := 5) (N := some 22) (v := ?_) (a' := ?_) #[tt,tt,tt,ff,tt,tt,ff,ff,ff,ff] rfl rfl (any_of HT_.out (by kernel_rfl)) (fun _ _ _ h => h) (Or.inl ⟨by rfl, ?_⟩) ?_ ?_
        rotate_left
        ·intro w'; go_simp; with_reducible rfl
        rotate_left
        ·(simp only [Act.put, sia_, sz_, ss_, i64_w, i32_w]); rfl
        refine pure_ (i := 6) (N := some 23) (v := ?_) (a' := ?_) #[tt,tt,tt,ff,tt,tt,tt,ff,ff,ff] rfl rfl (any_of HT_.out (by kernel_rfl)) (fun _ _ _ h => h) (Or.inl ⟨by rfl, ?_⟩) ?_ ?_
        rotate_left
        ·intro w'; go_simp; with_reducible rfl
        rotate_left
        ·(simp only [Act.put, sia_, sz_, ss_, i64_w, i32_w]); rfl
        refine take_ (i := 3) (N := some 20) (v := ?_) (a' := ?_) #[tt,tt,tt,tt,tt,tt,tt,ff,ff,ff] rfl rfl (take_ofW HT_.out HW_.out (by kernel_rfl)) (fun _ _ _ h => h) (Or.inl ⟨by rfl, ?_⟩) hHeld ?_ ?_
        rotate_left
        ·(rintro w' ⟨s0, s1, s2, s3, s4, s5⟩); go_simp; with_reducible rfl
        rotate_left
        ·(simp only [Act.put, sia_, sz_, ss_, i64_w, i32_w]); rfl
        refine take_ (i := 7) (N := some 24) (v := ?_) (a' := ?_) #[tt,tt,tt,tt,tt,tt,tt,tt,ff,ff] rfl rfl (take_ofW HT_.out HW_.out (by kernel_rfl)) (fun _ _ _ h => h) (Or.inl ⟨by rfl, ?_⟩) hHeld ?_ ?_
        rotate_left
        ·(rintro w' ⟨s0, s1, s2, s3, s4, s5⟩); go_simp; with_reducible rfl
        rotate_left
        ·(simp only [Act.put, sia_, sz_, ss_, i64_w, i32_w]); rfl
        refine one_ (i := 8) (N := some 25) #[tt,tt,tt,tt,tt,tt,tt,tt,tt,ff] rfl rfl (one_of HT_.out (by kernel_rfl)) (by decide) (fun K hK => ?_)
        (refine goes_ Try.func52 (by kernel_rfl) rfl #[.agg #[.int .i64 ((rd_T69 l0 x5_1).f0), .int .i64 ((rd_T69 l0 x5_1).f1), .int .i64 ((rd_T69 l0 x5_1).f2)], .agg #[.int .i64 ((rd_T69 l1 x5_1).f0), .int .i64 ((rd_T69 l1 x5_1).f1), .int .i64 ((rd_T69 l1 x5_1).f2)]] (by rfl) rfl rfl (by (try simp only [List.map_toArray, List.map_cons, List.map_nil]); first | done | rfl | (simp only [List.length_drop, List.length_take]; rfl)) ?_); (with_reducible refine (laws_eqCube.calls ((rd_T69 l0 x5_1).f0) ((rd_T69 l0 x5_1).f1) ((rd_T69 l0 x5_1).f2) ((rd_T69 l1 x5_1).f0) ((rd_T69 l1 x5_1).f1) ((rd_T69 l1 x5_1).f2) true _ A7.out).mono ?_); (rintro e w10 ⟨rfl, hb⟩); (refine ⟨_, rfl, ?_⟩); (have n0_ := A0_ (below_step (by repeat (first | (with_reducible first | exact HB.out | apply ba_ | apply bn_ | apply bd_) | exact HB.out)) hb)); clear HB; (have HB := n0_); clear n0_; ((try clear hb)); ((try clear hb2)); ((try clear hk)); ((try clear hi))
        refine hK.out _ _ ⟨((HB.out.cell (World.block_lt_of_cell? w _ hw323_0)).trans hw323_0), ((HB.out.cell (World.block_lt_of_cell? w _ hw323_1)).trans hw323_1), ((HB.out.cell (World.block_lt_of_cell? w _ hw323_2)).trans hw323_2), ((HB.out.cell (World.block_lt_of_cell? w _ hw324_0)).trans hw324_0), ((HB.out.cell (World.block_lt_of_cell? w _ hw324_1)).trans hw324_1), ((HB.out.cell (World.block_lt_of_cell? w _ hw324_2)).trans hw324_2)⟩ (fun hHeld => ?_)
        clear hK K; (refine norm_ (a' := ?_) ?_ ?_); rotate_left
        ·(show Act.put _ (some 25) _ = _); (simp only [Act.put, sia_, sz_, ss_, i64_w, i32_w]); rfl
        refine pure_ (i := 9) (N := some 26) (v := ?_) (a' := ?_) #[tt,tt,tt,tt,tt,tt,tt,tt,tt,tt] rfl rfl (any_of HT_.out (by kernel_rfl)) (fun _ _ _ h => h) (Or.inl ⟨by rfl, ?_⟩) ?_ ?_
        rotate_left
        ·intro w'; go_simp; with_reducible rfl
        rotate_left
        ·(simp only [Act.put, sia_, sz_, ss_, i64_w, i32_w]); rfl
        (refine done_ (done_of HT_.out (by kernel_rfl)) ?_); (try go_wp2); (go_roundg k1)
        case measure => have := HK1.out; omega
        case rel => exact ⟨(wrap64 (x5_1 + 1)), (by first | rfl | (simp; done) | (simp [*]; done)), H', ⟨by have := HK1.out; omega⟩, ⟨by repeat (first | (with_reducible first | exact HB.out | apply ba_ | apply bn_ | apply bd_) | exact HB.out)⟩⟩
       ·(replace c8 := Bool.eq_false_iff.mpr c8); subst c8; (have H1 : (some false) = some r := by rw [if_neg (show ¬ (false = true) by decide)] at H; exact H); clear H; (have H := H1); clear H1; (obtain rfl := Option.some.inj H); (try go_wp2); (have n0_ := A0_ (below_drew1 HB.out)); clear HB; (have HB := n0_); clear n0_; (have p323 : 0 ≤ (x5_1 : Int) := of_decide_eq_true (by first | (with_reducible assumption) | assumption)); (have q323 : x5_1 < (l0.length : Int) := of_decide_eq_true (by first | (with_reducible assumption) | assumption)); (obtain ⟨ad323, e323, hx323_0, hx323_1, hx323_2⟩ := at_T69 HR0.out x5_1 p323 q323); (have hw323_2 := hx323_2); (have hw323_1 := hx323_1); (have hw323_0 := hx323_0); (cases e323); (replace hx323_0 := (HB.out.cell (World.block_lt_of_cell? w _ hx323_0)).trans hx323_0); (replace hx323_1 := (HB.out.cell (World.block_lt_of_cell? w _ hx323_1)).trans hx323_1); (replace hx323_2 := (HB.out.cell (World.block_lt_of_cell? w _ hx323_2)).trans hx323_2); (replace p323 := eq_true p323); (replace q323 := eq_true q323); (have p324 : 0 ≤ (x5_1 : Int) := of_decide_eq_true (by first | (with_reducible assumption) | assumption)); (have q324 : x5_1 < (l1.length : Int) := of_decide_eq_true (by first | (with_reducible assumption) | assumption)); (obtain ⟨ad324, e324, hx324_0, hx324_1, hx324_2⟩ := at_T69 HR1.out x5_1 p324 q324); (have hw324_2 := hx324_2); (have hw324_1 := hx324_1); (have hw324_0 := hx324_0); (cases e324); (replace hx324_0 := (HB.out.cell (World.block_lt_of_cell? w _ hx324_0)).trans hx324_0); (replace hx324_1 := (HB.out.cell (World.block_lt_of_cell? w _ hx324_1)).trans hx324_1); (replace hx324_2 := (HB.out.cell (World.block_lt_of_cell? w _ hx324_2)).trans hx324_2); (replace p324 := eq_true p324); (replace q324 := eq_true q324)
        refine start_ (n := 10) (S := fun w' => w'.cell? (ad323.add ((x5_1).toNat * 3)) = some (.int .i64 ((rd_T69 l0 x5_1).f0)) ∧ w'.cell? ⟨(ad323.add ((x5_1).toNat * 3)).block, (ad323.add ((x5_1).toNat * 3)).off + 1, none⟩ = some (.int .i64 ((rd_T69 l0 x5_1).f1)) ∧ w'.cell? ⟨(ad323.add ((x5_1).toNat * 3)).block, (ad323.add ((x5_1).toNat * 3)).off + 2, none⟩ = some (.int .i64 ((rd_T69 l0 x5_1).f2)) ∧ w'.cell? (ad324.add ((x5_1).toNat * 3)) = some (.int .i64 ((rd_T69 l1 x5_1).f0)) ∧ w'.cell? ⟨(ad324.add ((x5_1).toNat * 3)).block, (ad324.add ((x5_1).toNat * 3)).off + 1, none⟩ = some (.int .i64 ((rd_T69 l1 x5_1).f1)) ∧ w'.cell? ⟨(ad324.add ((x5_1).toNat * 3)).block, (ad324.add ((x5_1).toNat * 3)).off + 2, none⟩ = some (.int .i64 ((rd_T69 l1 x5_1).f2))) (ds := []) #[ff,ff,ff,ff,ff,ff,ff,ff,ff,ff] (by kernel_rfl) rfl rfl ⟨((HB.out.cell (World.block_lt_of_cell? w _ hw323_0)).trans hw323_0), ((HB.out.cell (World.block_lt_of_cell? w _ hw323_1)).trans hw323_1), ((HB.out.cell (World.block_lt_of_cell? w _ hw323_2)).trans hw323_2), ((HB.out.cell (World.block_lt_of_cell? w _ hw324_0)).trans hw324_0), ((HB.out.cell (World.block_lt_of_cell? w _ hw324_1)).trans hw324_1), ((HB.out.cell (World.block_lt_of_cell? w _ hw324_2)).trans hw324_2)⟩ (fun hHeld => ?_); refine with_tabW laws_eqCubeS.tab6 laws_eqCubeS.bits6 (fun HT_ HW_ => ?_)
        (generalize wr.drew = w11 at HB hx323_0 hx323_1 hx323_2 hx324_0 hx324_1 hx324_2 hHeld ⊢)
        refine pure_ (i := 0) (N := some 17) (v := ?_) (a' := ?_) #[tt,ff,ff,ff,ff,ff,ff,ff,ff,ff] rfl rfl (any_of HT_.out (by kernel_rfl)) (fun _ _ _ h => h) (Or.inl ⟨by rfl, ?_⟩) ?_ ?_
        rotate_left
        ·intro w'; go_simp; with_reducible rfl
        rotate_left
        ·(simp only [Act.put, sia_, sz_, ss_, i64_w, i32_w]); rfl
        refine pure_ (i := 1) (N := some 18) (v := ?_) (a' := ?_) #[tt,tt,ff,ff,ff,ff,ff,ff,ff,ff] rfl rfl (any_of HT_.out (by kernel_rfl)) (fun _ _ _ h => h) (Or.inl ⟨by rfl, ?_⟩) ?_ ?_
        rotate_left
        ·intro w'; go_simp; with_reducible rfl
        rotate_left
        ·(simp only [Act.put, sia_, sz_, ss_, i64_w, i32_w]); rfl
        refine pure_ (i := 2) (N := some 19) (v := ?_) (a' := ?_) #[tt,tt,tt,ff,ff,ff,ff,ff,ff,ff] rfl rfl (any_of HT_.out (by kernel_rfl)) (fun _ _ _ h => h) (Or.inl ⟨by rfl, ?_⟩) ?_ ?_
        rotate_left
        ·intro w'; go_simp; with_reducible rfl
        rotate_left
        ·(simp only [Act.put, sia_, sz_, ss_, i64_w, i32_w]); rfl
        refine pure_ (i := 4) (N := some 21) (v := ?_) (a' := ?_) #[tt,tt,tt,ff,tt,ff,ff,ff,ff,ff] rfl rfl (any_of HT_.out (by kernel_rfl)) (fun _ _ _ h => h) (Or.inl ⟨by rfl, ?_⟩) ?_ ?_
        rotate_left
        ·intro w'; go_simp; with_reducible rfl
        rotate_left
        ·(simp only [Act.put, sia_, sz_, ss_, i64_w, i32_w]); rfl
        refine pure_ (i := 5) (N := some 22) (v := ?_) (a' := ?_) #[tt,tt,tt,ff,tt,tt,ff,ff,ff,ff] rfl rfl (any_of HT_.out (by kernel_rfl)) (fun _ _ _ h => h) (Or.inl ⟨by rfl, ?_⟩) ?_ ?_
        rotate_left
        ·intro w'; go_simp; with_reducible rfl
        rotate_left
        ·(simp only [Act.put, sia_, sz_, ss_, i64_w, i32_w]); rfl
        refine pure_ (i := 6) (N := some 23) (v := ?_) (a' := ?_) #[tt,tt,tt,ff,tt,tt,tt,ff,ff,ff] rfl rfl (any_of HT_.out (by kernel_rfl)) (fun _ _ _ h => h) (Or.inl ⟨by rfl, ?_⟩) ?_ ?_
        rotate_left
        ·intro w'; go_simp; with_reducible rfl
        rotate_left
        ·(simp only [Act.put, sia_, sz_, ss_, i64_w, i32_w]); rfl
        refine take_ (i := 3) (N := some 20) (v := ?_) (a' := ?_) #[tt,tt,tt,tt,tt,tt,tt,ff,ff,ff] rfl rfl (take_ofW HT_.out HW_.out (by kernel_rfl)) (fun _ _ _ h => h) (Or.inl ⟨by rfl, ?_⟩) hHeld ?_ ?_
        rotate_left
        ·(rintro w' ⟨s0, s1, s2, s3, s4, s5⟩); go_simp; with_reducible rfl
        rotate_left
        ·(simp only [Act.put, sia_, sz_, ss_, i64_w, i32_w]); rfl
        refine take_ (i := 7) (N := some 24) (v := ?_) (a' := ?_) #[tt,tt,tt,tt,tt,tt,tt,tt,ff,ff] rfl rfl (take_ofW HT_.out HW_.out (by kernel_rfl)) (fun _ _ _ h => h) (Or.inl ⟨by rfl, ?_⟩) hHeld ?_ ?_
        rotate_left
        ·(rintro w' ⟨s0, s1, s2, s3, s4, s5⟩); go_simp; with_reducible rfl
        rotate_left
        ·(simp only [Act.put, sia_, sz_, ss_, i64_w, i32_w]); rfl
        refine one_ (i := 8) (N := some 25) #[tt,tt,tt,tt,tt,tt,tt,tt,tt,ff] rfl rfl (one_of HT_.out (by kernel_rfl)) (by decide) (fun K hK => ?_)
        (refine goes_ Try.func52 (by kernel_rfl) rfl #[.agg #[.int .i64 ((rd_T69 l0 x5_1).f0), .int .i64 ((rd_T69 l0 x5_1).f1), .int .i64 ((rd_T69 l0 x5_1).f2)], .agg #[.int .i64 ((rd_T69 l1 x5_1).f0), .int .i64 ((rd_T69 l1 x5_1).f1), .int .i64 ((rd_T69 l1 x5_1).f2)]] (by rfl) rfl rfl (by (try simp only [List.map_toArray, List.map_cons, List.map_nil]); first | done | rfl | (simp only [List.length_drop, List.length_take]; rfl)) ?_); (with_reducible refine (laws_eqCube.calls ((rd_T69 l0 x5_1).f0) ((rd_T69 l0 x5_1).f1) ((rd_T69 l0 x5_1).f2) ((rd_T69 l1 x5_1).f0) ((rd_T69 l1 x5_1).f1) ((rd_T69 l1 x5_1).f2) false _ A7.out).mono ?_); (rintro e w12 ⟨rfl, hb⟩); (refine ⟨_, rfl, ?_⟩); (have n0_ := A0_ (below_step (by repeat (first | (with_reducible first | exact HB.out | apply ba_ | apply bn_ | apply bd_) | exact HB.out)) hb)); clear HB; (have HB := n0_); clear n0_; ((try clear hb)); ((try clear hb2)); ((try clear hk)); ((try clear hi))
        refine hK.out _ _ ⟨((HB.out.cell (World.block_lt_of_cell? w _ hw323_0)).trans hw323_0), ((HB.out.cell (World.block_lt_of_cell? w _ hw323_1)).trans hw323_1), ((HB.out.cell (World.block_lt_of_cell? w _ hw323_2)).trans hw323_2), ((HB.out.cell (World.block_lt_of_cell? w _ hw324_0)).trans hw324_0), ((HB.out.cell (World.block_lt_of_cell? w _ hw324_1)).trans hw324_1), ((HB.out.cell (World.block_lt_of_cell? w _ hw324_2)).trans hw324_2)⟩ (fun hHeld => ?_)
        clear hK K; (refine norm_ (a' := ?_) ?_ ?_); rotate_left
        ·(show Act.put _ (some 25) _ = _); (simp only [Act.put, sia_, sz_, ss_, i64_w, i32_w]); rfl
        refine pure_ (i := 9) (N := some 26) (v := ?_) (a' := ?_) #[tt,tt,tt,tt,tt,tt,tt,tt,tt,tt] rfl rfl (any_of HT_.out (by kernel_rfl)) (fun _ _ _ h => h) (Or.inl ⟨by rfl, ?_⟩) ?_ ?_
        rotate_left
        ·intro w'; go_simp; with_reducible rfl
        rotate_left
        ·(simp only [Act.put, sia_, sz_, ss_, i64_w, i32_w]); rfl
        (refine done_ (done_of HT_.out (by kernel_rfl)) ?_); (try go_wp2); go_ret; (exact ⟨by first | rfl | (simp [errW_none, errW_some] <;> rfl) | (simp [*, errW_none, errW_some] <;> rfl), by repeat (first | (with_reducible first | exact HB.out | apply ba_ | apply bn_ | apply bd_) | exact HB.out)⟩)
      ·(rw [if_neg c6] at H); (exact absurd H (by simp))
     ·(rw [if_neg c5] at H); (exact absurd H (by simp))
    ·(rw [if_neg c4] at H); (have c4b0 : decide (x5_1 < (l0.length : Int)) = false := decide_eq_false c4); clear c4; (obtain rfl := Option.some.inj H); go_wp2; go_ret; (exact ⟨by first | rfl | (simp [errW_none, errW_some] <;> rfl) | (simp [*, errW_none, errW_some] <;> rfl), by repeat (first | (with_reducible first | exact HB.out | apply ba_ | apply bn_ | apply bd_) | exact HB.out)⟩)
 ·(rw [if_neg c3] at H); (have c3b0 : ((l0.length : Int) == (l1.length : Int)) = false := beq_eq_false_iff_ne.mpr c3); (have c3b1 : ((l0.length : Int) != (l1.length : Int)) = true := bne_iff_ne.mpr c3); (have c3b2 : (l0.length == l1.length) = false := by first | simpa using c3 | (simp at c3 ⊢; omega)); (obtain rfl := Option.some.inj H); (go_enter Try.func18, Try.ntmps18); go_wp2; go_ret; (exact ⟨by first | rfl | (simp [errW_none, errW_some] <;> rfl) | (simp [*, errW_none, errW_some] <;> rfl), by repeat (first | (with_reducible first | exact HB.out | apply ba_ | apply bn_ | apply bd_) | exact HB.out)⟩)
end Go.Proofs.Ytlbckkagjekhnaa.A

namespace Go.Proofs.Ytlbckkagjekhnaa.A
open Go.RowKit Go.Proofs.YtlbckkagjekhnaaW.PrintWords Go.Proofs.YtlbckkagjekhnaaW.PrintLast Go.Proofs.YtlbckkagjekhnaaW.PrintMore
attribute [local go_sem] max2_int min2_int max_two min_two max_three min_three max_four min_four   -- for this text's walks alone
set_option linter.unusedVariables false
set_option linter.unusedSimpArgs false
def laws_eqCubeSS.l0 : Nat → List (List (S69)) → List (List (S69)) → Int → Option (Bool)
  | 0, _, _, _ => none
  | k + 1, x0, x1, x5 => if x5 < (x0.length : Int) then (if 0 ≤ x5 then (if x5 < (x1.length : Int) then ((laws_eqCubeS.f k (rd_L4 x0 x5) (rd_L4 x1 x5)).bind fun t328 => (if t328 = true then (laws_eqCubeSS.l0 k x0 x1 (wrap64 (x5 + 1))) else (some false))) else (none)) else (none)) else (some true)
def laws_eqCubeSS.f (k : Nat) (l0 : List (List (S69))) (l1 : List (List (S69))) : Option (Bool) := if (l0.length : Int) = (l1.length : Int) then (laws_eqCubeSS.l0 k l0 l1 0) else (some false)
def laws_eqCubeSS.T6 : Bool × List (List Nat × List Nat) := (true, [([], []), ([], []), ([0, 1], [0, 1]), ([2], [2]), ([], []), ([], []), ([4, 5], [4, 5]), ([6], [6]), ([3, 7], [3, 7]), ([8], [8])])
def laws_eqCubeSS.B6 : List Nat := [0, 0, 3, 7, 0, 0, 48, 112, 255, 511]
theorem laws_eqCubeSS.tab6 : rtab .any (opsOf Try.f16 6) = laws_eqCubeSS.T6 := by kernel_rfl
theorem laws_eqCubeSS.bits6 : waitsOk laws_eqCubeSS.T6.2 laws_eqCubeSS.B6 = true := by kernel_rfl
set_option maxHeartbeats 8000000 in
set_option maxRecDepth 100000 in
theorem laws_eqCubeSS.calls (k : Nat) (A0 : Option Addr) (c0 : Nat) (l0 : List (List (S69))) (A1 : Option Addr) (c1 : Nat) (l1 : List (List (S69))) (r : Bool) (w : World) (hr0 : Kd.C (Kd.slice 69 k69) w A0 l0.length l0) (hc0 : l0.length ≤ c0) (hr1 : Kd.C (Kd.slice 69 k69) w A1 l1.length l1) (hc1 : l1.length ≤ c1) (h : laws_eqCubeSS.f k l0 l1 = some r) :
    Calls Try.prog 16 #[.slice A0 l0.length c0, .slice A1 l1.length c1] w fun e w' => e = .returned (.bool r) ∧ Below w.heap.size w w' := by
 (have HR0 := A0_ hr0); (have HC0 := A0_ hc0); clear hr0 hc0; (have HR1 := A0_ hr1); (have HC1 := A0_ hc1); clear hr1 hc1; (have HB := A0_ (Below.refl w.heap.size w)); (have H : (if (l0.length : Int) = (l1.length : Int) then (laws_eqCubeSS.l0 k l0 l1 0) else (some false)) = some r := h); clear h; (by_cases c3 : (l0.length : Int) = (l1.length : Int))
 ·(rw [if_pos c3] at H); (have c3b0 : ((l0.length : Int) == (l1.length : Int)) = true := beq_iff_eq.mpr c3); (have c3b1 : ((l0.length : Int) != (l1.length : Int)) = false := bne_eq_false_iff_eq.mpr c3); (have c3b2 : (l0.length == l1.length) = true := by first | simpa using c3 | (simp at c3 ⊢; omega)); clear c3; (have H' := A0_ H); clear H; (go_enter Try.func16, Try.ntmps16); go_wp2
  go_loopg [5] k (fun kq v5 w' => ∃ (x5_1 : Int), v5 = .int .i64 x5_1 ∧ Aside0 (laws_eqCubeSS.l0 kq l0 l1 x5_1 = some r) ∧ Aside0 (kq ≤ k) ∧ Aside0 (Below w.heap.size w w'))
  case atStart => exact ⟨(0), (by first | rfl | (simp; done) | (simp [*]; done)), H', ⟨Nat.le_refl _⟩, ⟨by repeat (first | (with_reducible first | exact HB.out | apply ba_ | apply bn_ | apply bd_) | exact HB.out)⟩⟩
  case round =>
   clear H'; (try clear c1); (try clear p2); (try clear c3); (try clear c3b0); (try clear c3b1); (try clear c3b2); (obtain ⟨x5_1, rfl, HA, HK1, HB⟩ := hrel)
   cases gk with
   | zero => exact absurd HA.out (by simp [laws_eqCubeSS.l0])
   | succ k1 =>
    (have H := HA.out); clear HA; (simp only [laws_eqCubeSS.l0] at H); (by_cases c4 : x5_1 < (l0.length : Int))
    ·(rw [if_pos c4] at H); (have c4b0 : decide (x5_1 < (l0.length : Int)) = true := decide_eq_true c4); clear c4; (by_cases c5 : 0 ≤ x5_1)
     ·(rw [if_pos c5] at H); (have c5b0 : decide (0 ≤ x5_1) = true := decide_eq_true c5); clear c5; (by_cases c6 : x5_1 < (l1.length : Int))
      ·(rw [if_pos c6] at H); (have c6b0 : decide (x5_1 < (l1.length : Int)) = true := decide_eq_true c6); clear c6; (replace H := Option.bind_eq_some_iff.mp H); (obtain ⟨t328, A70, H⟩ := H); (try dsimp only at H); (have A7 := A0_ A70); clear A70; (by_cases c8 : t328 = true)
       ·subst c8; (have H1 := H); (rw [if_pos rfl] at H1); clear H; (have H := H1); clear H1; (have H' := A0_ H); clear H; (try go_wp2); (have n0_ := A0_ (below_drew1 HB.out)); clear HB; (have HB := n0_); clear n0_; (have p326 : 0 ≤ (x5_1 : Int) := of_decide_eq_true (by first | (with_reducible assumption) | assumption)); (have q326 : x5_1 < (l0.length : Int) := of_decide_eq_true (by first | (with_reducible assumption) | assumption)); (obtain ⟨ad326, A326_0, c326_0, e326, hx326_0, hl326_0, hi326_0⟩ := at_L4 HR0.out x5_1 p326 q326); (have hw326_0 := hx326_0); (cases e326); (replace hx326_0 := (HB.out.cell (World.block_lt_of_cell? w _ hx326_0)).trans hx326_0); (have HR326_0 := A0_ hi326_0); (have HC326_0 := A0_ hl326_0); clear hi326_0 hl326_0; (replace p326 := eq_true p326); (replace q326 := eq_true q326); (have p327 : 0 ≤ (x5_1 : Int) := of_decide_eq_true (by first | (with_reducible assumption) | assumption)); (have q327 : x5_1 < (l1.length : Int) := of_decide_eq_true (by first | (with_reducible assumption) | assumption)); (obtain ⟨ad327, A327_0, c327_0, e327, hx327_0, hl327_0, hi327_0⟩ := at_L4 HR1.out x5_1 p327 q327); (have hw327_0 := hx327_0); (cases e327); (replace hx327_0 := (HB.out.cell (World.block_lt_of_cell? w _ hx327_0)).trans hx327_0); (have HR327_0 := A0_ hi327_0); (have HC327_0 := A0_ hl327_0); clear hi327_0 hl327_0; (replace p327 := eq_true p327); (replace q327 := eq_true q327)
        refine start_ (n := 10) (S := fun w' => w'.cell? (ad326.add (x5_1).toNat) = some (.slice A326_0 (rd_L4 l0 x5_1).length c326_0) ∧ w'.cell? (ad327.add (x5_1).toNat) = some (.slice A327_0 (rd_L4 l1 x5_1).length c327_0)) (ds := []) #[ff,ff,ff,ff,ff,ff,ff,ff,ff,ff] (by kernel_rfl) rfl rfl ⟨((HB.out.cell (World.block_lt_of_cell? w _ hw326_0)).trans hw326_0), ((HB.out.cell (World.block_lt_of_cell? w _ hw327_0)).trans hw327_0)⟩ (fun hHeld => ?_); refine with_tabW laws_eqCubeSS.tab6 laws_eqCubeSS.bits6 (fun HT_ HW_ => ?_)
        (generalize wr.drew = w9 at HB HR326_0 HR327_0 hx326_0 hx327_0 hHeld ⊢)
        refine pure_ (i := 0) (N := some 17) (v := ?_) (a' := ?_) #[tt,ff,ff,ff,ff,ff,ff,ff,ff,ff] rfl rfl (any_of HT_.out (by kernel_rfl)) (fun _ _ _ h => h) (Or.inl ⟨by rfl, ?_⟩) ?_ ?_
        rotate_left
        ·intro w'; go_simp; with_reducible rfl
        rotate_left
        ·(simp only [Act.put, sia_, sz_, ss_, i64_w, i32_w]); rfl
        refine pure_ (i := 1) (N := some 18) (v := ?_) (a' := ?_) #[tt,tt,ff,ff,ff,ff,ff,ff,ff,ff] rfl rfl (any_of HT_.out (by kernel_rfl)) (fun _ _ _ h => h) (Or.inl ⟨by rfl, ?_⟩) ?_ ?_
        rotate_left
        ·intro w'; go_simp; with_reducible rfl
        rotate_left
        ·(simp only [Act.put, sia_, sz_, ss_, i64_w, i32_w]); rfl
        refine pure_ (i := 2) (N := some 19) (v := ?_) (a' := ?_) #[tt,tt,tt,ff,ff,ff,ff,ff,ff,ff] rfl rfl (any_of HT_.out (by kernel_rfl)) (fun _ _ _ h => h) (Or.inl ⟨by rfl, ?_⟩) ?_ ?_
        rotate_left
        ·intro w'; go_simp; with_reducible rfl
        rotate_left
        ·(simp only [Act.put, sia_, sz_, ss_, i64_w, i32_w]); rfl
        refine pure_ (i := 4) (N := some 21) (v := ?_) (a' := ?_) #[tt,tt,tt,ff,tt,ff,ff,ff,ff,ff] rfl rfl (any_of HT_.out (by kernel_rfl)) (fun _ _ _ h => h) (Or.inl ⟨by rfl, ?_⟩) ?_ ?_
        rotate_left
        ·intro w'; go_simp; with_reducible rfl
        rotate_left
        ·(simp only [Act.put, sia_, sz_, ss_, i64_w, i32_w]); rfl
        refine pure_ (i := 5) (N := some 22) (v := ?_) (a' := ?_) #[tt,tt,tt,ff,tt,tt,ff,ff,ff,ff] rfl rfl (any_of HT_.out (by kernel_rfl)) (fun _ _ _ h => h) (Or.inl ⟨by rfl, ?_⟩) ?_ ?_
        rotate_left
        ·intro w'; go_simp; with_reducible rfl
        rotate_left
        ·(simp only [Act.put, sia_, sz_, ss_, i64_w, i32_w]); rfl
        refine pure_ (i := 6) (N := some 23) (v := ?_) (a' := ?_) #[tt,tt,tt,ff,tt,tt,tt,ff,ff,ff] rfl rfl (any_of HT_.out (by kernel_rfl)) (fun _ _ _ h => h) (Or.inl ⟨by rfl, ?_⟩) ?_ ?_
        rotate_left
        ·intro w'; go_simp; with_reducible rfl
        rotate_left
        ·(simp only [Act.put, sia_, sz_, ss_, i64_w, i32_w]); rfl
        refine take_ (i := 3) (N := some 20) (v := ?_) (a' := ?_) #[tt,tt,tt,tt,tt,tt,tt,ff,ff,ff] rfl rfl (take_ofW HT_.out HW_.out (by kernel_rfl)) (fun _ _ _ h => h) (Or.inl ⟨by rfl, ?_⟩) hHeld ?_ ?_
        rotate_left
        ·(rintro w' ⟨s0, s1⟩); go_simp; with_reducible rfl
        rotate_left
        ·(simp only [Act.put, sia_, sz_, ss_, i64_w, i32_w]); rfl
        refine take_ (i := 7) (N := some 24) (v := ?_) (a' := ?_) #[tt,tt,tt,tt,tt,tt,tt,tt,ff,ff] rfl rfl (take_ofW HT_.out HW_.out (by kernel_rfl)) (fun _ _ _ h => h) (Or.inl ⟨by rfl, ?_⟩) hHeld ?_ ?_
        rotate_left
        ·(rintro w' ⟨s0, s1⟩); go_simp; with_reducible rfl
        rotate_left
        ·(simp only [Act.put, sia_, sz_, ss_, i64_w, i32_w]); rfl
        refine one_ (i := 8) (N := some 25) #[tt,tt,tt,tt,tt,tt,tt,tt,tt,ff] rfl rfl (one_of HT_.out (by kernel_rfl)) (by decide) (fun K hK => ?_)
        (refine goes_ Try.func18 (by kernel_rfl) rfl #[.slice A326_0 (rd_L4 l0 x5_1).length c326_0, .slice A327_0 (rd_L4 l1 x5_1).length c327_0] (by rfl) rfl rfl (by (try simp only [List.map_toArray, List.map_cons, List.map_nil]); first | done | rfl | (simp only [List.length_drop, List.length_take]; rfl)) ?_); (with_reducible refine (laws_eqCubeS.calls k1 _ _ (rd_L4 l0 x5_1) _ _ (rd_L4 l1 x5_1) true _ ?side1 ?side2 ?side3 ?side4 A7.out).mono ?_); ((case side1 => repeat (first | exact (Kd.C_below HR326_0.out HB.out) | (with_reducible refine Kd.C_alloc ?_ _) | (with_reducible refine Kd.C_drewN ?_ _) | (with_reducible refine Kd.C_drew ?_)))); ((case side2 => exact HC326_0.out)); ((case side3 => repeat (first | exact (Kd.C_below HR327_0.out HB.out) | (with_reducible refine Kd.C_alloc ?_ _) | (with_reducible refine Kd.C_drewN ?_ _) | (with_reducible refine Kd.C_drew ?_)))); ((case side4 => exact HC327_0.out)); (rintro e w10 ⟨rfl, hb⟩); (refine ⟨_, rfl, ?_⟩); (have n0_ := A0_ (below_step (by repeat (first | (with_reducible first | exact HB.out | apply ba_ | apply bn_ | apply bd_) | exact HB.out)) hb)); clear HB; (have HB := n0_); clear n0_; ((try clear hb)); ((try clear hb2)); ((try clear hk)); ((try clear hi))
        refine hK.out _ _ ⟨((HB.out.cell (World.block_lt_of_cell? w _ hw326_0)).trans hw326_0), ((HB.out.cell (World.block_lt_of_cell? w _ hw327_0)).trans hw327_0)⟩ (fun hHeld => ?_)
        clear hK K; (refine norm_ (a' := ?_) ?_ ?_); rotate_left
        ·(show Act.put _ (some 25) _ = _); (simp only [Act.put, sia_, sz_, ss_, i64_w, i32_w]); rfl
        refine pure_ (i := 9) (N := some 26) (v := ?_) (a' := ?_) #[tt,tt,tt,tt,tt,tt,tt,tt,tt,tt] rfl rfl (any_of HT_.out (by kernel_rfl)) (fun _ _ _ h => h) (Or.inl ⟨by rfl, ?_⟩) ?_ ?_
        rotate_left
        ·intro w'; go_simp; with_reducible rfl
        rotate_left
        ·(simp only [Act.put, sia_, sz_, ss_, i64_w, i32_w]); rfl
        (refine done_ (done_of HT_.out (by kernel_rfl)) ?_); (try go_wp2); (go_roundg k1)
        case measure => have := HK1.out; omega
        case rel => exact ⟨(wrap64 (x5_1 + 1)), (by first | rfl | (simp; done) | (simp [*]; done)), H', ⟨by have := HK1.out; omega⟩, ⟨by repeat (first | (with_reducible first | exact HB.out | apply ba_ | apply bn_ | apply bd_) | exact HB.out)⟩⟩
       ·(replace c8 := Bool.eq_false_iff.mpr c8); subst c8; (have H1 : (some false) = some r := by rw [if_neg (show ¬ (false = true) by decide)] at H; exact H); clear H; (have H := H1); clear H1; (obtain rfl := Option.some.inj H); (try go_wp2); (have n0_ := A0_ (below_drew1 HB.out)); clear HB; (have HB := n0_); clear n0_; (have p326 : 0 ≤ (x5_1 : Int) := of_decide_eq_true (by first | (with_reducible assumption) | assumption)); (have q326 : x5_1 < (l0.length : Int) := of_decide_eq_true (by first | (with_reducible assumption) | assumption)); (obtain ⟨ad326, A326_0, c326_0, e326, hx326_0, hl326_0, hi326_0⟩ := at_L4 HR0.out x5_1 p326 q326); (have hw326_0 := hx326_0); (cases e326); (replace hx326_0 := (HB.out.cell (World.block_lt_of_cell? w _ hx326_0)).trans hx326_0); (have HR326_0 := A0_ hi326_0); (have HC326_0 := A0_ hl326_0); clear hi326_0 hl326_0; (replace p326 := eq_true p326); (replace q326 := eq_true q326); (have p327 : 0 ≤ (x5_1 : Int) := of_decide_eq_true (by first | (with_reducible assumption) | assumption)); (have q327 : x5_1 < (l1.length : Int) := of_decide_eq_true (by first | (with_reducible assumption) | assumption)); (obtain ⟨ad327, A327_0, c327_0, e327, hx327_0, hl327_0, hi327_0⟩ := at_L4 HR1.out x5_1 p327 q327); (have hw327_0 := hx327_0); (cases e327); (replace hx327_0 := (HB.out.cell (World.block_lt_of_cell? w _ hx327_0)).trans hx327_0); (have HR327_0 := A0_ hi327_0); (have HC327_0 := A0_ hl327_0); clear hi327_0 hl327_0; (replace p327 := eq_true p327); (replace q327 := eq_true q327)
        refine start_ (n := 10) (S := fun w' => w'.cell? (ad326.add (x5_1).toNat) = some (.slice A326_0 (rd_L4 l0 x5_1).length c326_0) ∧ w'.cell? (ad327.add (x5_1).toNat) = some (.slice A327_0 (rd_L4 l1 x5_1).length c327_0)) (ds := []) #[ff,ff,ff,ff,ff,ff,ff,ff,ff,ff] (by kernel_rfl) rfl rfl ⟨((HB.out.cell (World.block_lt_of_cell? w _ hw326_0)).trans hw326_0), ((HB.out.cell (World.block_lt_of_cell? w _ hw327_0)).trans hw327_0)⟩ (fun hHeld => ?_); refine with_tabW laws_eqCubeSS.tab6 laws_eqCubeSS.bits6 (fun HT_ HW_ => ?_)
        (generalize wr.drew = w11 at HB HR326_0 HR327_0 hx326_0 hx327_0 hHeld ⊢)
        refine pure_ (i := 0) (N := some 17) (v := ?_) (a' := ?_) #[tt,ff,ff,ff,ff,ff,ff,ff,ff,ff] rfl rfl (any_of HT_.out (by kernel_rfl)) (fun _ _ _ h => h) (Or.inl ⟨by rfl, ?_⟩) ?_ ?_
        rotate_left
        ·intro w'; go_simp; with_reducible rfl
        rotate_left
        ·(simp only [Act.put, sia_, sz_, ss_, i64_w, i32_w]); rfl
        refine pure_ (i := 1) (N := some 18) (v := ?_) (a' := ?_) #[tt,tt,ff,ff,ff,ff,ff,ff,ff,ff] rfl rfl (any_of HT_.out (by kernel_rfl)) (fun _ _ _ h => h) (Or.inl ⟨by rfl, ?_⟩) ?_ ?_
        rotate_left
        ·intro w'; go_simp; with_reducible rfl
        rotate_left
        ·(simp only [Act.put, sia_, sz_, ss_, i64_w, i32_w]); rfl
        refine pure_ (i := 2) (N := some 19) (v := ?_) (a' := ?_) #[tt,tt,tt,ff,ff,ff,ff,ff,ff,ff] rfl rfl (any_of HT_.out (by kernel_rfl)) (fun _ _ _ h => h) (Or.inl ⟨by rfl, ?_⟩) ?_ ?_
        rotate_left
        ·intro w'; go_simp; with_reducible rfl
        rotate_left
        ·(simp only [Act.put, sia_, sz_, ss_, i64_w, i32_w]); rfl
        refine pure_ (i := 4) (N := some 21) (v := ?_) (a' := ?_) #[tt,tt,tt,ff,tt,ff,ff,ff,ff,ff] rfl rfl (any_of HT_.out (by kernel_rfl)) (fun _ _ _ h => h) (Or.inl ⟨by rfl, ?_⟩) ?_ ?_
        rotate_left
        ·intro w'; go_simp; with_reducible rfl
        rotate_left
        ·(simp only [Act.put, sia_, sz_, ss_, i64_w, i32_w]); rfl
        refine pure_ (i := 5) (N := some 22) (v := ?_) (a' := ?_) #[tt,tt,tt,ff,tt,tt,ff,ff,ff,ff] rfl rfl (any_of HT_.out (by kernel_rfl)) (fun _ _ _ h => h) (Or.inl ⟨by rfl, ?_⟩) ?_ ?_
        rotate_left
        ·intro w'; go_simp; with_reducible rfl
        rotate_left
        ·(simp only [Act.put, sia_, sz_, ss_, i64_w, i32_w]); rfl
        refine pure_ (i := 6) (N := some 23) (v := ?_) (a' := ?_) #[tt,tt,tt,ff,tt,tt,tt,ff,ff,ff] rfl rfl (any_of HT_.out (by kernel_rfl)) (fun _ _ _ h => h) (Or.inl ⟨by rfl, ?_⟩) ?_ ?_
        rotate_left
        ·intro w'; go_simp; with_reducible rfl
        rotate_left
        ·(simp only [Act.put, sia_, sz_, ss_, i64_w, i32_w]); rfl
        refine take_ (i := 3) (N := some 20) (v := ?_) (a' := ?_) #[tt,tt,tt,tt,tt,tt,tt,ff,ff,ff] rfl rfl (take_ofW HT_.out HW_.out (by kernel_rfl)) (fun _ _ _ h => h) (Or.inl ⟨by rfl, ?_⟩) hHeld ?_ ?_
        rotate_left
        ·(rintro w' ⟨s0, s1⟩); go_simp; with_reducible rfl
        rotate_left
        ·(simp only [Act.put, sia_, sz_, ss_, i64_w, i32_w]); rfl
        refine take_ (i := 7) (N := some 24) (v := ?_) (a' := ?_) #[tt,tt,tt,tt,tt,tt,tt,tt,ff,ff] rfl rfl (take_ofW HT_.out HW_.out (by kernel_rfl)) (fun _ _ _ h => h) (Or.inl ⟨by rfl, ?_⟩) hHeld ?_ ?_
        rotate_left
        ·(rintro w' ⟨s0, s1⟩); go_simp; with_reducible rfl
        rotate_left
        ·(simp only [Act.put, sia_, sz_, ss_, i64_w, i32_w]); rfl
        refine one_ (i := 8) (N := some 25) #[tt,tt,tt,tt,tt,tt,tt,tt,tt,ff] rfl rfl (one_of HT_.out (by kernel_rfl)) (by decide) (fun K hK => ?_)
        (refine goes_ Try.func18 (by kernel_rfl) rfl #[.slice A326_0 (rd_L4 l0 x5_1).length c326_0, .slice A327_0 (rd_L4 l1 x5_1).length c327_0] (by rfl) rfl rfl (by (try simp only [List.map_toArray, List.map_cons, List.map_nil]); first | done | rfl | (simp only [List.length_drop, List.length_take]; rfl)) ?_); (with_reducible refine (laws_eqCubeS.calls k1 _ _ (rd_L4 l0 x5_1) _ _ (rd_L4 l1 x5_1) false _ ?side1 ?side2 ?side3 ?side4 A7.out).mono ?_); ((case side1 => repeat (first | exact (Kd.C_below HR326_0.out HB.out) | (with_reducible refine Kd.C_alloc ?_ _) | (with_reducible refine Kd.C_drewN ?_ _) | (with_reducible refine Kd.C_drew ?_)))); ((case side2 => exact HC326_0.out)); ((case side3 => repeat (first | exact (Kd.C_below HR327_0.out HB.out) | (with_reducible refine Kd.C_alloc ?_ _) | (with_reducible refine Kd.C_drewN ?_ _) | (with_reducible refine Kd.C_drew ?_)))); ((case side4 => exact HC327_0.out)); (rintro e w12 ⟨rfl, hb⟩); (refine ⟨_, rfl, ?_⟩); (have n0_ := A0_ (below_step (by repeat (first | (with_reducible first | exact HB.out | apply ba_ | apply bn_ | apply bd_) | exact HB.out)) hb)); clear HB; (have HB := n0_); clear n0_; ((try clear hb)); ((try clear hb2)); ((try clear hk)); ((try clear hi))
        refine hK.out _ _ ⟨((HB.out.cell (World.block_lt_of_cell? w _ hw326_0)).trans hw326_0), ((HB.out.cell (World.block_lt_of_cell? w _ hw327_0)).trans hw327_0)⟩ (fun hHeld => ?_)
        clear hK K; (refine norm_ (a' := ?_) ?_ ?_); rotate_left
        ·(show Act.put _ (some 25) _ = _); (simp only [Act.put, sia_, sz_, ss_, i64_w, i32_w]); rfl
        refine pure_ (i := 9) (N := some 26) (v := ?_) (a' := ?_) #[tt,tt,tt,tt,tt,tt,tt,tt,tt,tt] rfl rfl (any_of HT_.out (by kernel_rfl)) (fun _ _ _ h => h) (Or.inl ⟨by rfl, ?_⟩) ?_ ?_
        rotate_left
        ·intro w'; go_simp; with_reducible rfl
        rotate_left
        ·(simp only [Act.put, sia_, sz_, ss_, i64_w, i32_w]); rfl
        (refine done_ (done_of HT_.out (by kernel_rfl)) ?_); (try go_wp2); go_ret; (exact ⟨by first | rfl | (simp [errW_none, errW_some] <;> rfl) | (simp [*, errW_none, errW_some] <;> rfl), by repeat (first | (with_reducible first | exact HB.out | apply ba_ | apply bn_ | apply bd_) | exact HB.out)⟩)
      ·(rw [if_neg c6] at H); (exact absurd H (by simp))
     ·(rw [if_neg c5] at H); (exact absurd H (by simp))
    ·(rw [if_neg c4] at H); (have c4b0 : decide (x5_1 < (l0.length : Int)) = false := decide_eq_false c4); clear c4; (obtain rfl := Option.some.inj H); go_wp2; go_ret; (exact ⟨by first | rfl | (simp [errW_none, errW_some] <;> rfl) | (simp [*, errW_none, errW_some] <;> rfl), by repeat (first | (with_reducible first | exact HB.out | apply ba_ | apply bn_ | apply bd_) | exact HB.out)⟩)
 ·(rw [if_neg c3] at H); (have c3b0 : ((l0.length : Int) == (l1.length : Int)) = false := beq_eq_false_iff_ne.mpr c3); (have c3b1 : ((l0.length : Int) != (l1.length : Int)) = true := bne_iff_ne.mpr c3); (have c3b2 : (l0.length == l1.length) = false := by first | simpa using c3 | (simp at c3 ⊢; omega)); (obtain rfl := Option.some.inj H); (go_enter Try.func16, Try.ntmps16); go_wp2; go_ret; (exact ⟨by first | rfl | (simp [errW_none, errW_some] <;> rfl) | (simp [*, errW_none, errW_some] <;> rfl), by repeat (first | (with_reducible first | exact HB.out | apply ba_ | apply bn_ | apply bd_) | exact HB.out)⟩)
end Go.Proofs.Ytlbckkagjekhnaa.A

namespace Go.Proofs.Ytlbckkagjekhnaa.A
open Go.RowKit Go.Proofs.YtlbckkagjekhnaaW.PrintWords Go.Proofs.YtlbckkagjekhnaaW.PrintLast Go.Proofs.YtlbckkagjekhnaaW.PrintMore
attribute [local go_sem] max2_int min2_int max_two min_two max_three min_three max_four min_four   -- for this text's walks alone
set_option linter.unusedVariables false
set_option linter.unusedSimpArgs false
def laws_eqAssembly.f (k : Nat) (l0_0 : List (List (S69))) (l1_0 : List (List (S69))) : Option (Bool) := (laws_eqCubeSS.f k l0_0 l1_0).bind fun t331 => (if t331 = true then (some true) else (some false))
set_option maxHeartbeats 8000000 in
set_option maxRecDepth 100000 in
theorem laws_eqAssembly.calls (k : Nat) (A0_0 : Option Addr) (c0_0 : Nat) (l0_0 : List (List (S69))) (A1_0 : Option Addr) (c1_0 : Nat) (l1_0 : List (List (S69))) (r : Bool) (w : World) (hr0_0 : Kd.C (Kd.slice 69 k69) w A0_0 l0_0.length l0_0) (hc0_0 : l0_0.length ≤ c0_0) (hr1_0 : Kd.C (Kd.slice 69 k69) w A1_0 l1_0.length l1_0) (hc1_0 : l1_0.length ≤ c1_0) (h : laws_eqAssembly.f k l0_0 l1_0 = some r) :
    Calls Try.prog 17 #[.agg #[.slice A0_0 l0_0.length c0_0], .agg #[.slice A1_0 l1_0.length c1_0]] w fun e w' => e = .returned (.bool r) ∧ Below w.heap.size w w' := by
 (have hu32 := Try.underlying32); (have HR0_0 := A0_ hr0_0); (have HC0_0 := A0_ hc0_0); clear hr0_0 hc0_0; (have HR1_0 := A0_ hr1_0); (have HC1_0 := A0_ hc1_0); clear hr1_0 hc1_0; (have HB := A0_ (Below.refl w.heap.size w))
 have H : ((laws_eqCubeSS.f k l0_0 l1_0).bind fun t331 => (if t331 = true then (some true) else (some false))) = some r := h
 clear h; (replace H := Option.bind_eq_some_iff.mp H); (obtain ⟨t331, A30, H⟩ := H); (try dsimp only at H); (have A3 := A0_ A30); clear A30; (have H0_ := A0_ H); clear H; (go_enter Try.func17, Try.ntmps17); (go_wp2_with (first | ((with_reducible refine gate_dst (N := 2) rfl ?_); refine box_event ?hg (N := 2) ?hd (cs := #[.slice A0_0 l0_0.length c0_0]) (t := 32) ?hr ?_; (case hd => rfl); (case hg => rfl); (case hr => first | (go_simp; done) | (go_simp; rfl)); intro gb329 hg w4 hbox hb; have n0_ := A0_ (below_step (by repeat (first | (with_reducible first | exact HB.out | apply ba_ | apply bn_ | apply bd_) | exact HB.out)) hb); have n1_ := A0_ (hbox); have n2_ := A0_ ((by rw [hg]; exact (below_size (by repeat (first | (with_reducible first | exact HB.out | apply ba_ | apply bn_ | apply bd_) | exact HB.out))) : w.heap.size ≤ gb329)); have n3_ := A0_ ((by rw [hg]; exact (below_size (by repeat (first | (with_reducible first | exact HB.out | apply ba_ | apply bn_ | apply bd_) | exact HB.out))) : w.heap.size ≤ gb329)); clear HB; have HB := n0_; have BK329 := n1_; have GW329 := n2_; have GE329 := n3_; clear n0_ n1_ n2_ n3_; clear hb hbox hg) | ((with_reducible refine gate_dst (N := 3) rfl ?_); refine box_event ?hg (N := 3) ?hd (cs := #[.slice A1_0 l1_0.length c1_0]) (t := 32) ?hr ?_; (case hd => rfl); (case hg => rfl); (case hr => first | (go_simp; done) | (go_simp; rfl)); intro gb330 hg w5 hbox hb; have n0_ := A0_ (blk_below (g := gb329) (o := .cells #[.slice A0_0 l0_0.length c0_0] 32 (0, 0)) (by (with_reducible repeat (first | apply gn_ | apply gd_ | apply ga_)); exact BK329.out) hb); have n1_ := A0_ (below_step (by repeat (first | (with_reducible first | exact HB.out | apply ba_ | apply bn_ | apply bd_ | refine below_set ?_ GE329.out) | exact HB.out)) hb); have n2_ := A0_ (hbox); have n3_ := A0_ ((by rw [hg]; exact (below_size (by repeat (first | (with_reducible first | exact HB.out | apply ba_ | apply bn_ | apply bd_ | refine below_set ?_ GE329.out) | exact HB.out))) : w.heap.size ≤ gb330)); have n4_ := A0_ ((by rw [hg]; exact (below_size (by repeat (first | (with_reducible first | exact HB.out | apply ba_ | apply bn_ | apply bd_ | refine below_set ?_ GE329.out) | exact HB.out))) : w.heap.size ≤ gb330)); have n5_ := A0_ ((by rw [hg]; exact Nat.ne_of_lt (blk_lt (g := gb329) (o := .cells #[.slice A0_0 l0_0.length c0_0] 32 (0, 0)) (by (with_reducible repeat (first | apply gn_ | apply gd_ | apply ga_)); exact BK329.out)) : gb329 ≠ gb330)); have n6_ := A0_ ((by rw [hg]; exact Nat.ne_of_gt (blk_lt (g := gb329) (o := .cells #[.slice A0_0 l0_0.length c0_0] 32 (0, 0)) (by (with_reducible repeat (first | apply gn_ | apply gd_ | apply ga_)); exact BK329.out)) : gb330 ≠ gb329)); clear BK329; clear HB; have BK329 := n0_; have HB := n1_; have BK330 := n2_; have GW330 := n3_; have GE330 := n4_; have NB329_330 := n5_; have NB330_329 := n6_; clear n0_ n1_ n2_ n3_ n4_ n5_ n6_; clear hb hbox hg; have hnb6 := NB329_330.out; have hnc6 := NB330_329.out; have hcz7_0 : w5.cell? ⟨gb329, 0, none⟩ = some (.slice A0_0 l0_0.length c0_0) := (blk_cell BK329.out 0).trans rfl; have hfz7_0 := blk_frozen BK329.out 0; have hcz8_0 : w5.cell? ⟨gb330, 0, none⟩ = some (.slice A1_0 l1_0.length c1_0) := (blk_cell BK330.out 0).trans rfl; have hfz8_0 := blk_frozen BK330.out 0) | ((with_reducible refine gate_callee (f := 16) rfl ?_); refine goesL_ (some 9) rfl rfl Try.func16 (by kernel_rfl) rfl #[.slice A0_0 l0_0.length c0_0, .slice A1_0 l1_0.length c1_0] rfl (by (try simp only [List.map_toArray, List.map_cons, List.map_nil]); first | done | rfl | (simp only [List.length_drop, List.length_take]; rfl)) ?_; (with_reducible refine (laws_eqCubeSS.calls k _ _ l0_0 _ _ l1_0 t331 _ ?side1 ?side2 ?side3 ?side4 A3.out).mono ?_); (case side1 => repeat (first | exact (Kd.C_below HR0_0.out HB.out) | (with_reducible refine Kd.C_alloc ?_ _) | (with_reducible refine Kd.C_drewN ?_ _) | (with_reducible refine Kd.C_drew ?_))); (case side2 => exact HC0_0.out); (case side3 => repeat (first | exact (Kd.C_below HR1_0.out HB.out) | (with_reducible refine Kd.C_alloc ?_ _) | (with_reducible refine Kd.C_drewN ?_ _) | (with_reducible refine Kd.C_drew ?_))); (case side4 => exact HC1_0.out); rintro e w9 ⟨rfl, hb⟩; refine ⟨_, rfl, ?_⟩; have n0_ := A0_ (blk_below (g := gb329) (o := .cells #[.slice A0_0 l0_0.length c0_0] 32 (0, 0)) (by (with_reducible repeat (first | apply gn_ | apply gd_ | apply ga_)); exact BK329.out) hb); have n1_ := A0_ (blk_below (g := gb330) (o := .cells #[.slice A1_0 l1_0.length c1_0] 32 (0, 0)) (by (with_reducible repeat (first | apply gn_ | apply gd_ | apply ga_)); exact BK330.out) hb); have n2_ := A0_ (below_step (by repeat (first | (with_reducible first | exact HB.out | apply ba_ | apply bn_ | apply bd_ | refine below_set ?_ GE329.out | refine below_set ?_ GE330.out) | exact HB.out)) hb); clear BK329; clear BK330; clear HB; have BK329 := n0_; have BK330 := n1_; have HB := n2_; clear n0_ n1_ n2_; (try clear hb); (try clear hb2); (try clear hk); (try clear hi); refine Stop0.out ?_))); (refine Stop0.mk ?_); (have H := H0_.out); clear H0_; (by_cases c10 : t331 = true)
 ·subst c10; (have H1 := H); (rw [if_pos rfl] at H1); clear H; (have H := H1); clear H1; (obtain rfl := Option.some.inj H); go_wp2; go_ret; (exact ⟨by first | rfl | (simp [errW_none, errW_some] <;> rfl) | (simp [*, errW_none, errW_some] <;> rfl), by repeat (first | (with_reducible first | exact HB.out | apply ba_ | apply bn_ | apply bd_ | refine below_set ?_ GE329.out | refine below_set ?_ GE330.out) | exact HB.out)⟩)
 ·(replace c10 := Bool.eq_false_iff.mpr c10); subst c10; (have H1 : (some false) = some r := by rw [if_neg (show ¬ (false = true) by decide)] at H; exact H); clear H; (have H := H1); clear H1; (obtain rfl := Option.some.inj H); go_wp2; go_ret; (exact ⟨by first | rfl | (simp [errW_none, errW_some] <;> rfl) | (simp [*, errW_none, errW_some] <;> rfl), by repeat (first | (with_reducible first | exact HB.out | apply ba_ | apply bn_ | apply bd_ | refine below_set ?_ GE329.out | refine below_set ?_ GE330.out) | exact HB.out)⟩)
end Go.Proofs.Ytlbckkagjekhnaa.A

/- What the burrs' laws do with assemblies: sizes, copies, comparisons. No program in sight. -/
namespace Go.Proofs.Ytlbckkagjekhnaa.A
open Go.RowKit Go.Proofs.YtlbckkagjekhnaaW.PrintWords Go.Proofs.YtlbckkagjekhnaaW.PrintLast Go.Proofs.YtlbckkagjekhnaaW.PrintMore
set_option linter.unusedVariables false
set_option linter.unusedSimpArgs false
abbrev Lb := S71
structure S24 where
  f0 : List (List Lb)
def k24 : Kd S24 := Kd.iso (Kd.slice 25 (Kd.slice 71 k71)) (fun x : S24 => x.f0)
theorem k24_open {w : World} {x : S24} {cs : List Value} (h : k24.K w x cs) : ∃ A0 c0, cs = [.slice A0 x.f0.length c0] ∧ x.f0.length ≤ c0 ∧ (Kd.slice 71 k71).C w A0 x.f0.length x.f0 := by
  obtain ⟨A0, c0, rfl, l0, g0⟩ := h
  exact ⟨A0, c0, rfl, l0, g0⟩
def toC (c : Lb) : Cb := ⟨c.f0, c.f1, c.f2⟩
def toP (l : List (List Lb)) : List (List Cb) := l.map fun p => p.map toC
def szV {α : Type} : List (List α) → Int → Int
  | [], a => a
  | r :: rs, a => if a - (r.length : Int) < 0 then -1 else szV rs (a - (r.length : Int))
def szL {α : Type} (rows : List (List α)) (a : Int) : Int := if a - (rows.length : Int) < 0 then -1 else szV rows (a - (rows.length : Int))
def tot2 {α : Type} (rows : List (List α)) : Int := ((rows.map List.length).sum : Nat)
theorem tot2_cons {α : Type} (r : List α) (rs : List (List α)) : tot2 (r :: rs) = (r.length : Int) + tot2 rs := by unfold tot2; simp
theorem tot2_nn {α : Type} (rows : List (List α)) : 0 ≤ tot2 rows := by unfold tot2; omega
theorem szV_eq {α : Type} : ∀ (rows : List (List α)) (a : Int), ¬ szV rows a < 0 → szV rows a = a - tot2 rows ∧ ∀ r ∈ rows, (r.length : Int) ≤ a
  | [], a, h => ⟨by simp [szV, tot2], fun r hr => by simp at hr⟩
  | x :: rs, a, h => by
    unfold szV at h ⊢
    rw [tot2_cons]
    by_cases c : a - (x.length : Int) < 0
    · rw [if_pos c] at h; omega
    · rw [if_neg c] at h ⊢
      obtain ⟨h1, h2⟩ := szV_eq rs _ h
      refine ⟨by omega, fun r hr => ?_⟩
      rcases List.mem_cons.1 hr with rfl | hr
      · omega
      · have := h2 r hr; omega
/-- The sizes of an input that the law looks at. -/
structure SzOk {α : Type} (rows : List (List α)) : Prop where
  len : rows.length ≤ 1048576
  each : ∀ r ∈ rows, r.length ≤ 1048576
  tot : tot2 rows ≤ 1048576
theorem szL_eq {α : Type} (rows : List (List α)) (a : Int) (ha : a ≤ 1048576) (h : ¬ szL rows a < 0) : szL rows a = a - (rows.length : Int) - tot2 rows ∧ SzOk rows := by
  unfold szL at h ⊢
  by_cases c : a - (rows.length : Int) < 0
  · rw [if_pos c] at h; omega
  · rw [if_neg c] at h ⊢
    obtain ⟨h1, h2⟩ := szV_eq rows _ h
    refine ⟨h1, ⟨by omega, fun r hr => by have := h2 r hr; omega, ?_⟩⟩
    omega
theorem szCubeSS_ev (rows : List (List Lb)) (a : Int) (ha : 0 ≤ a ∧ a ≤ 1048576) (h1 : rows.length ≤ maxLen) (h2 : ∀ r ∈ rows, r.length ≤ maxLen) : Ev (fun k => laws_szCubeSS.f k rows a) (szL rows a) := by
  unfold maxLen at h1 h2
  unfold laws_szCubeSS.f szL
  have e : wrap64 (a - (rows.length : Int)) = a - (rows.length : Int) := by unfold wrap64; omega
  rw [e]
  by_cases c : a - (rows.length : Int) < 0
  · simp only [c, if_true]
    exact Ev.now _
  · simp only [c, if_false]
    have := ev_listI rows (fun (s : Int) (_ : Nat) => 0 ≤ s ∧ s ≤ 1048576) (fun s i k => laws_szCubeSS.l0 k rows s i) (fun s l => szV l s) (fun s hi => ?_) (fun s j hj hi ih => ?_) rows.length 0 (a - (rows.length : Int)) (by omega) ⟨by omega, by omega⟩
    · simpa using this
    · exact Ev.step (f := fun _ => some s) (fun k => by simp only [laws_szCubeSS.l0]; rw [if_neg (by omega)]) (Ev.now _)
    · have hg : rd_L2 rows (j : Int) = rows[j] := by unfold rd_L2; exact getD_nat rows _ j hj
      have hr := h2 rows[j] (List.getElem_mem hj)
      have ew : wrap64 (s - (rows[j].length : Int)) = s - (rows[j].length : Int) := by unfold wrap64; omega
      refine Ev.succ ?_
      simp only [laws_szCubeSS.l0, show (j : Int) < (rows.length : Int) from by omega, show (0 : Int) ≤ (j : Int) from by omega, if_true, hg, laws_szCubeS.f, ew, wrap_succ j (by omega)]
      rw [show szV (rows[j] :: rows.drop (j + 1)) s = if s - (rows[j].length : Int) < 0 then -1 else szV (rows.drop (j + 1)) (s - (rows[j].length : Int)) from rfl]
      by_cases c2 : s - (rows[j].length : Int) < 0
      · simp only [c2, if_true, Option.bind_some, show ((-1 : Int) < 0) from by decide]
        exact Ev.now _
      · simp only [c2, if_false, Option.bind_some]
        exact ih _ ⟨by omega, by omega⟩
theorem szAssembly_ev (rows : List (List Lb)) (a : Int) (ha : 0 ≤ a ∧ a ≤ 1048576) (h1 : rows.length ≤ maxLen) (h2 : ∀ r ∈ rows, r.length ≤ maxLen) : Ev (fun k => laws_szAssembly.f k rows a) (if szL rows a < 0 then -1 else szL rows a) := by
  unfold laws_szAssembly.f
  refine Ev.bind (szCubeSS_ev rows a ha h1 h2) ?_
  by_cases c : szL rows a < 0
  · simp only [c, if_true]; exact Ev.now _
  · simp only [c, if_false]; exact Ev.now _
theorem toCubeS_ev (l : List Lb) (h : l.length ≤ 1048576) : Ev (fun k => laws_toCubeS.f k l) (l.map toC) := by
  unfold laws_toCubeS.f
  simp only [Int.toNat_natCast, show (0 : Int) ≤ l.length from by omega, show l.length ≤ 11728124029610 from by omega, if_true]
  refine ev_at l.length (fun s j => s = (l.take j).map toC ++ List.replicate (l.length - j) z69) (l.map toC) (fun s i k => laws_toCubeS.l0 k l s i) (fun s hi => ?_) (fun s j hj hi => ?_) _ (by simp)
  · refine Ev.step (f := fun _ => some s) (fun k => by simp only [laws_toCubeS.l0]; rw [if_neg (by omega)]) ?_
    rw [hi]
    simpa using Ev.now _
  · have hl : s.length = l.length := by rw [hi]; simp; omega
    have hg : rd_T71 l (j : Int) = l[j] := by unfold rd_T71; exact getD_nat l _ j hj
    refine ⟨s.set j (toC l[j]), by rw [hi]; exact set_fill toC _ l j hj, fun h2 => Ev.step (fun k => ?_) h2⟩
    simp only [laws_toCubeS.l0, laws_toCube.f, Option.bind_some, hg]
    rw [if_pos (by omega), if_pos (by omega), if_pos (by omega), wrap_succ j (by omega), Int.toNat_natCast]
    rfl
theorem toCubeSS_ev (l : List (List Lb)) (h : SzOk l) : Ev (fun k => laws_toCubeSS.f k l) (toP l) := by
  have h1 := h.len
  unfold laws_toCubeSS.f toP
  simp only [Int.toNat_natCast, show (0 : Int) ≤ l.length from by omega, show l.length ≤ 11728124029610 from by omega, if_true]
  refine ev_at l.length (fun s j => s = (l.take j).map (fun p => p.map toC) ++ List.replicate (l.length - j) []) (l.map fun p => p.map toC) (fun s i k => laws_toCubeSS.l0 k l s i) (fun s hi => ?_) (fun s j hj hi => ?_) (List.replicate l.length []) (by simp)
  · refine Ev.step (f := fun _ => some s) (fun k => by simp only [laws_toCubeSS.l0]; rw [if_neg (by omega)]) ?_
    rw [hi]
    simpa using Ev.now _
  · have hl : s.length = l.length := by rw [hi]; simp; omega
    have hg : rd_L2 l (j : Int) = l[j] := by unfold rd_L2; exact getD_nat l _ j hj
    refine ⟨s.set j (l[j].map toC), by rw [hi]; exact set_fill (fun p => p.map toC) _ l j hj, fun h2 => Ev.succ ?_⟩
    simp only [laws_toCubeSS.l0, show (j : Int) < (l.length : Int) from by omega, show (0 : Int) ≤ (j : Int) from by omega, show (j : Int) < (s.length : Int) from by omega, if_true, hg, wrap_succ j (by omega), Int.toNat_natCast]
    exact Ev.bind (toCubeS_ev l[j] (h.each _ (List.getElem_mem hj))) h2
theorem toAssembly_ev (l : List (List Lb)) (h : SzOk l) : Ev (fun k => laws_toAssembly.f k l) (toP l) := by
  unfold laws_toAssembly.f
  exact Ev.bind (toCubeSS_ev l h) (Ev.now _)
theorem eqCubeS_ev (l : List Cb) (h : l.length ≤ 1048576) : Ev (fun k => laws_eqCubeS.f k l l) true := by
  unfold laws_eqCubeS.f
  simp only [if_true]
  refine ev_at l.length (fun (_ : Unit) _ => True) true (fun _ i k => laws_eqCubeS.l0 k l l i) (fun s hi => ?_) (fun s j hj hi => ?_) () trivial
  · exact Ev.step (f := fun _ => some true) (fun k => by simp only [laws_eqCubeS.l0]; rw [if_neg (by omega)]) (Ev.now _)
  · refine ⟨(), trivial, fun h2 => Ev.step (fun k => ?_) h2⟩
    simp only [laws_eqCubeS.l0, laws_eqCube.f, if_true, Option.bind_some]
    rw [if_pos (by omega), if_pos (by omega), if_pos (by omega), wrap_succ j (by omega)]
theorem eqCubeSS_ev (l : List (List Cb)) (h : SzOk l) : Ev (fun k => laws_eqCubeSS.f k l l) true := by
  have h1 := h.len
  unfold laws_eqCubeSS.f
  simp only [if_true]
  refine ev_at l.length (fun (_ : Unit) _ => True) true (fun _ i k => laws_eqCubeSS.l0 k l l i) (fun s hi => ?_) (fun s j hj hi => ?_) () trivial
  · exact Ev.step (f := fun _ => some true) (fun k => by simp only [laws_eqCubeSS.l0]; rw [if_neg (by omega)]) (Ev.now _)
  · have hg : rd_L4 l (j : Int) = l[j] := by unfold rd_L4; exact getD_nat l _ j hj
    refine ⟨(), trivial, fun h2 => Ev.succ ?_⟩
    simp only [laws_eqCubeSS.l0, show (j : Int) < (l.length : Int) from by omega, show (0 : Int) ≤ (j : Int) from by omega, if_true, hg, wrap_succ j (by omega)]
    refine Ev.bind (eqCubeS_ev l[j] (h.each _ (List.getElem_mem hj))) ?_
    simpa using h2
theorem eqAssembly_ev (l : List (List Cb)) (h : SzOk l) : Ev (fun k => laws_eqAssembly.f k l l) true := by
  unfold laws_eqAssembly.f
  exact Ev.bind (eqCubeSS_ev l h) (by simpa using Ev.now true)
theorem toP_ok {l : List (List Lb)} (h : SzOk l) : SzOk (toP l) := by
  refine ⟨by unfold toP; rw [List.length_map]; exact h.len, fun r hr => ?_, ?_⟩
  · unfold toP at hr
    obtain ⟨p, hp, rfl⟩ := List.mem_map.1 hr
    rw [List.length_map]
    exact h.each p hp
  · have : tot2 (toP l) = tot2 l := by
      unfold tot2 toP
      rw [List.map_map]
      have : (List.length ∘ fun p : List Lb => List.map toC p) = (List.length : List Lb → Nat) := by funext p; simp
      rw [this]
    rw [this]
    exact h.tot
end Go.Proofs.Ytlbckkagjekhnaa.A

/- Both StatesOf: what they answer on any assembly (contracts without premises on small functions). -/
namespace Go.Proofs.Ytlbckkagjekhnaa.A
open Go.RowKit Go.Proofs.YtlbckkagjekhnaaW.PrintWords Go.Proofs.YtlbckkagjekhnaaW.PrintLast Go.Proofs.YtlbckkagjekhnaaW.PrintMore
set_option linter.unusedVariables false
set_option linter.unusedSimpArgs false
abbrev asmP (parts : List (List Cb)) : Bool := isAsmP solP conP parts
theorem sol_at {parts : List (List Cb)} (hz : SzOk parts) : ∀ p ∈ parts, ∃ K, impl_isSolid.f K p = some (solP p) := fun p hp => (isolid_ev p (hz.each p hp)).rounds
theorem con_at {parts : List (List Cb)} (hz : SzOk parts) : ∀ p ∈ parts, solP p = true → ∃ K, impl_connectedCubes.f K p = some (conP p) := fun p hp hs => (icon_ev p (sol_in p hs).1 (hz.each p hp) (sol_in p hs).2.2).rounds
/-- What an assembly is. -/
theorem asm_of {parts : List (List Cb)} (h : asmP parts = true) : (2 ≤ parts.length ∧ parts.length ≤ 4) ∧ ∀ p ∈ parts, (1 ≤ p.length ∧ p.length ≤ 24) ∧ ∀ c ∈ p, inCb c 0 7 = true := by
  unfold asmP isAsmP at h
  rw [Bool.and_eq_true, Bool.and_eq_true, Bool.and_eq_true, decide_eq_true_eq, decide_eq_true_eq, List.all_eq_true] at h
  refine ⟨h.1, fun p hp => ?_⟩
  obtain ⟨h1, _, h3⟩ := part_ok _ _ p (h.2.1 p hp)
  exact ⟨⟨(sol_in p h1).1, (sol_in p h1).2.1⟩, h3⟩
theorem fr_at {w : World} {Ap : Option Addr} {parts : List (List Cb)} (hC : kP.C w Ap parts.length parts) (hz : SzOk parts) (h : asmP parts = true) : FrOk w Ap parts := ⟨hC, by have := (asm_of h).1; omega, hz.each⟩
theorem sIsAsm_calls (Ap : Option Addr) (cp : Nat) (parts : List (List Cb)) (w : World) (hC : kP.C w Ap parts.length parts) (hcp : parts.length ≤ cp) (hz : SzOk parts) :
    Calls Try.prog 54 #[.agg #[.slice Ap parts.length cp]] w fun e w' => e = .returned (.bool (asmP parts)) ∧ Below w.heap.size w w' :=
  spec_IsAssembly.calls 0 Ap cp parts (asmP parts) w hC hcp (by unfold spec_IsAssembly.f; rw [if_pos ⟨hz.len, hz.each⟩, asm_same])
theorem iIsAsm_calls (w0 : World) (Ap : Option Addr) (cp : Nat) (parts : List (List Cb)) (hC : kP.C w0 Ap parts.length parts) (hz : SzOk parts) (rest : List Res) (w : World) (hs : Sp w0 rest w) :
    Calls Try.prog 56 #[.agg #[.slice Ap parts.length cp]] w fun e w' => e = .returned (.bool (asmP parts)) ∧ Sp w0 rest w' := isAssembly_calls w0 Ap cp parts hC hz.each solP conP (sol_at hz) (con_at hz) rest w hs
end Go.Proofs.Ytlbckkagjekhnaa.A

/- The program's readOffsets and RestOf, walked. -/
namespace Go.Proofs.Ytlbckkagjekhnaa.A
open Go.RowKit Go.Proofs.YtlbckkagjekhnaaW.PrintWords Go.Proofs.YtlbckkagjekhnaaW.PrintLast Go.Proofs.YtlbckkagjekhnaaW.PrintMore
set_option linter.unusedVariables false
set_option linter.unusedSimpArgs false
theorem asm_rows {parts : List (List Cb)} (h : asmP parts = true) : (2 ≤ parts.length ∧ parts.length ≤ 8) ∧ ∀ p ∈ parts, 0 < p.length ∧ p.length ≤ 64 := by
  obtain ⟨h1, h2⟩ := asm_of h
  exact ⟨by omega, fun p hp => by have := (h2 p hp).1; omega⟩
end Go.Proofs.Ytlbckkagjekhnaa.A

/- The program's follow, walked. -/
namespace Go.Proofs.Ytlbckkagjekhnaa.A
open Go.RowKit Go.Proofs.YtlbckkagjekhnaaW.PrintWords Go.Proofs.YtlbckkagjekhnaaW.PrintLast Go.Proofs.YtlbckkagjekhnaaW.PrintMore
set_option linter.unusedVariables false
set_option linter.unusedSimpArgs false
/-- The offsets after a move, if it is possible. -/
def stepM (parts : List (List Cb)) (o : List Cb) (m : Int) : Option (List Cb) := if (isMv parts.length m && possP parts o m) = true then some (movedP o m) else none
def followF (parts : List (List Cb)) (way : List Int) : Option (List Cb) := way.foldl (fun a m => a.bind fun o => stepM parts o m) (some (zerosC parts.length))
theorem foldl_none {α β : Type} (f : α → β → Option α) : ∀ l : List β, l.foldl (fun a m => a.bind fun o => f o m) none = none
  | [] => rfl
  | m :: ms => foldl_none f ms
theorem follow_next (parts : List (List Cb)) (way : List Int) (j : Nat) (h : j < way.length) : followF parts (way.take (j + 1)) = (followF parts (way.take j)).bind fun o => stepM parts o way[j] := by
  unfold followF
  rw [List.take_succ_eq_append_getElem h, List.foldl_append]
  rfl
theorem follow_dead (parts : List (List Cb)) (way : List Int) (j : Nat) (h : followF parts (way.take j) = none) : followF parts way = none := by
  unfold followF at h ⊢
  rw [← List.take_append_drop j way, List.foldl_append, h]
  exact foldl_none _ _
theorem stepM_len {parts : List (List Cb)} {o q : List Cb} {m : Int} (h : stepM parts o m = some q) : q.length = o.length := by
  unfold stepM at h
  split at h
  · obtain rfl := Option.some.inj h
    exact movedP_len o m
  · cases h
def RdsI (w0 : World) (r : Res) (Aw : Option Addr) (way : List Int) : Prop := ∀ (fp : Nat → Prop) (w : World), Below w0.heap.size w0 w → r.P fp w → kI.C w Aw way.length way
theorem RdsI.old {w0 : World} {Aw : Option Addr} {way : List Int} (h : kI.C w0 Aw way.length way) : RdsI w0 (Res.pure True) Aw way := fun _ w hb _ => Kd.C_below h hb
theorem RdsI.row {w0 : World} {Aw : Option Addr} {e base n c : Nat} {way : List Int} : RdsI w0 (Res.row kI e base (.slice Aw n c) way) Aw way := fun fp w hb h => (Kd.R_reads' h).2.2
theorem Sp.rdsI {w0 w : World} {rs : List Res} {i : Nat} {r : Res} {Aw : Option Addr} {way : List Int} (h : Sp w0 rs w) (hi : rs[i]? = some r) (hr : RdsI w0 r Aw way) : kI.C w Aw way.length way := by
  obtain ⟨fp, hp, _⟩ := h.get hi
  exact hr fp w h.below hp
set_option maxHeartbeats 4000000 in
set_option maxRecDepth 100000 in
theorem follow_calls (w0 : World) (Ap : Option Addr) (cp g gM : Nat) (parts : List (List Cb)) (hF : FrOk w0 Ap parts) (hne : 1 ≤ parts.length) (r : Res) (Aw : Option Addr) (cw : Nat) (way : List Int) (hr : RdsI w0 r Aw way) (hw : way.length ≤ 1048576) (hm : ∀ m ∈ way, m ≤ 9223372036854775807) (rest : List Res) (w : World)
    (hs : Sp w0 ([frBlk g gM Ap cp parts, frMemo gM parts, r] ++ rest) w) :
    Calls Try.prog 69 #[.pointer (some ⟨g, 0, none⟩), .slice Aw way.length cw] w fun e w' =>
      (∃ o A c, followF parts way = some o ∧ o.length = parts.length ∧ e = .returned (.tuple #[.slice A o.length c, .bool true]) ∧ Sp w0 ([Res.row kC 69 w0.heap.size (.slice A o.length c) o, frBlk g gM Ap cp parts, frMemo gM parts, r] ++ rest) w') ∨
      (followF parts way = none ∧ e = .returned (.tuple #[.slice none 0 0, .bool false]) ∧ Sp w0 ([frBlk g gM Ap cp parts, frMemo gM parts, r] ++ rest) w') := by
  have hu69 := Try.underlying69
  have hu130 := Try.underlying130
  have HS := A0_ hs
  have HF := A0_ hF
  have HNE := A0_ hne
  have HRD := A0_ hr
  have HWL := A0_ hw
  have HMX := A0_ hm
  have HN := A0_ hF.len
  have ht0 : followF parts (way.take 0) = some (zerosC parts.length) := rfl
  have HZL := A0_ (show (zerosC parts.length).length = parts.length by simp [zerosC])
  clear hs hF hne hr hw hm
  have hf0 := (blk_cell (Sp.blk HS.out (i := 0) rfl).1 0).trans rfl
  go_enter Try.func69, Try.ntmps69
  go_wp2_with (first
    | ((with_reducible refine gate_dst (N := 16) rfl ?_); refine Kd.R_make kC _ 69 rfl (N := 16) rfl 34 _ _ rfl ((parts.length : Nat) : Int) rfl rfl Try.underlying34 ((.agg #[(.int .i64 0), (.int .i64 0), (.int .i64 0)])) 24 info69 rfl (by decide) (by decide) ((⟨0, 0, 0⟩ : Cb)) (ok := fun _ => True) (okp := fun _ => True) (k69_mkM _ _ _ (⟨0, 0, 0⟩ : Cb)) (fun _ hk => hk) trivial ?h0 ?hl (Below.refl _ _) (Nat.le_refl _) ?_; (case h0 => omega); (case hl => have := HN.out; omega); intro vm_ wm_ ho_ hb_ hg_ hn_; clear hg_ hn_; rw [Int.toNat_natCast] at ho_; obtain ⟨zs, hxs_⟩ : ∃ xs_, xs_ = List.replicate (parts.length) ((⟨0, 0, 0⟩ : Cb)) := ⟨_, rfl⟩; rw [← hxs_] at ho_; have Hzs := A0_ hxs_; clear hxs_; have HS_ := A0_ (Sp.made' HS.out hb_ ho_); clear HS; have HS := HS_; clear HS_; clear ho_ hb_; obtain ⟨Az, cz, ev_⟩ := Sp.slice HS.out (i := 0) rfl; subst ev_; clear hf0))
  have HZS := A0_ (show zs = zerosC parts.length from Hzs.out)
  have HT0 := A0_ (show followF parts (way.take 0) = some zs by rw [HZS.out]; rfl)
  rw [← HZS.out] at HZL
  clear ht0 Hzs HZS
  go_loopg [6, 19] (way.length + 1) (fun kq v6 v19 w' => ∃ (j : Nat) (o : List Cb) (Ao : Option Addr) (co : Nat), v19 = .int .i64 (j : Int) ∧ v6 = .slice Ao o.length co ∧ Aside0 (j ≤ way.length ∧ kq + j = way.length + 1 ∧ o.length = parts.length ∧ followF parts (way.take j) = some o) ∧ Aside0 (Sp w0 ([Res.row kC 69 w0.heap.size (.slice Ao o.length co) o, frBlk g gM Ap cp parts, frMemo gM parts, r] ++ rest) w'))
  case atStart => exact ⟨0, zs, Az, cz, rfl, rfl, ⟨by omega, by omega, HZL.out, HT0.out⟩, HS⟩
  case round =>
    clear HS HT0 HZL
    obtain ⟨j, o, Ao, co, rfl, rfl, HX, HS⟩ := hrel
    obtain ⟨k1, rfl⟩ : ∃ k1, gk = k1 + 1 := ⟨gk - 1, by have := HX.out; omega⟩
    by_cases cj : j < way.length
    · have cj0 : decide (j < way.length) = true := decide_eq_true cj
      have q0 : (0 ≤ (j : Int)) = True := eq_true (by omega)
      have q1 : ((j : Int) < (way.length : Int)) = True := eq_true (by omega)
      have q2 : (j < way.length) = True := eq_true cj
      have HW := A0_ (wrap_succ j (by have := HWL.out; omega))
      have hfn := follow_next parts way j cj
      rw [HX.out.2.2.2, Option.bind_some] at hfn
      obtain ⟨adw, e, hxm⟩ := Kd.at_int (Sp.rdsI HS.out (i := 3) rfl HRD.out) (j : Int) (by omega) (by omega)
      subst e
      rw [Int.toNat_natCast, rd_nat way j cj] at hxm
      have HMM := A0_ (HMX.out way[j] (List.getElem_mem cj))
      obtain ⟨m, hmd⟩ : ∃ m, m = way[j] := ⟨_, rfl⟩
      rw [← hmd] at hfn hxm HMM
      obtain ⟨ado, e⟩ := Sp.some_ HS.out (i := 0) rfl (by rw [HX.out.2.2.1]; exact HNE.out)
      subst e
      have HCJ := A0_ cj
      clear cj hmd
      cases hmv : isMv parts.length m with
      | false =>
        have HNO := A0_ (follow_dead parts way (j + 1) (by rw [hfn]; unfold stepM; rw [hmv]; rfl))
        have HAN := A0_ (fun rest w hs => after_no w0 Ap cp g gM parts HF.out (.slice (some ado) o.length co) m HMM.out hmv rest w hs)
        clear hmv hfn
        go_wp2_with (first
          | (go_at_call 87; go_loud (have h2_ := A0_ (Sp.arr (pre := [Res.row kC 69 w0.heap.size (.slice (some ado) o.length co) o, frBlk g gM Ap cp parts, frMemo gM parts, r]) (pre' := [frBlk g gM Ap cp parts, frMemo gM parts, r, Res.row kC 69 w0.heap.size (.slice (some ado) o.length co) o]) (rest := rest) [1, 2, 3, 0] HS.out rfl rfl); refine (HAN.out _ _ h2_.out).mono ?_; rintro e wa_ ⟨rfl, hs_⟩; have HS_ := A0_ (hs_); clear HS; have HS := HS_; clear HS_; clear hs_ h2_ hxm)))
        go_ret2
        exact .inr ⟨HNO.out, rfl, Sp.out (rs := [frBlk g gM Ap cp parts, frMemo gM parts, r, Res.row kC 69 w0.heap.size (.slice (some ado) o.length co) o] ++ rest) HS.out 3⟩
      | true =>
        have HAY := A0_ (fun rest w hs => after_yes w0 Ap cp g gM parts HF.out HNE.out (Res.row kC 69 w0.heap.size (.slice (some ado) o.length co) o) ado co o Rds.row HX.out.2.2.1 m HMM.out hmv rest w hs)
        have HML := A0_ (movedP_len o m)
        cases hps : possP parts o m with
        | false =>
          have HNO := A0_ (follow_dead parts way (j + 1) (by rw [hfn]; unfold stepM; rw [hmv, hps]; rfl))
          rw [hps] at HAY
          clear hmv hfn hps
          go_wp2_with (first
            | (go_at_call 87; go_loud (have h2_ := A0_ (Sp.arr (pre := [Res.row kC 69 w0.heap.size (.slice (some ado) o.length co) o, frBlk g gM Ap cp parts, frMemo gM parts, r]) (pre' := [frBlk g gM Ap cp parts, frMemo gM parts, Res.row kC 69 w0.heap.size (.slice (some ado) o.length co) o, r]) (rest := rest) [1, 2, 0, 3] HS.out rfl rfl); refine (HAY.out ([r] ++ rest) _ h2_.out).mono ?_; rintro e wa_ ⟨An, cn, rfl, hs_⟩; have HS_ := A0_ (hs_); clear HS; have HS := HS_; clear HS_; clear hs_ h2_ hxm)))
          go_ret2
          exact .inr ⟨HNO.out, rfl, Sp.out (Sp.out HS.out 0) 2⟩
        | true =>
          have HNX := A0_ (show followF parts (way.take (j + 1)) = some (movedP o m) by rw [hfn]; unfold stepM; rw [hmv, hps]; rfl)
          rw [hps] at HAY
          clear hmv hfn hps
          go_wp2_with (first
            | (go_at_call 87; go_loud (have h2_ := A0_ (Sp.arr (pre := [Res.row kC 69 w0.heap.size (.slice (some ado) o.length co) o, frBlk g gM Ap cp parts, frMemo gM parts, r]) (pre' := [frBlk g gM Ap cp parts, frMemo gM parts, Res.row kC 69 w0.heap.size (.slice (some ado) o.length co) o, r]) (rest := rest) [1, 2, 0, 3] HS.out rfl rfl); refine (HAY.out ([r] ++ rest) _ h2_.out).mono ?_; rintro e wa_ ⟨An, cn, rfl, hs_⟩; have HS_ := A0_ (hs_); clear HS; have HS := HS_; clear HS_; clear hs_ h2_ hxm)))
          go_roundg k1
          case measure => omega
          case rel =>
            rw [HW.out]
            exact ⟨j + 1, movedP o m, An, cn, rfl, rfl, ⟨by have := HCJ.out; omega, by have := HX.out; omega, by rw [HML.out]; exact HX.out.2.2.1, HNX.out⟩, ⟨Sp.out HS.out 3⟩⟩
    · have cj0 : decide (j < way.length) = false := decide_eq_false cj
      have q1 : ((j : Int) < (way.length : Int)) = False := eq_false (by omega)
      have q2 : (j < way.length) = False := eq_false cj
      have hj : j = way.length := by have := HX.out; omega
      have HFO := A0_ (show followF parts way = some o by have h1 := HX.out.2.2.2; rw [hj, List.take_length] at h1; exact h1)
      clear cj hj
      go_wp2
      go_ret2
      exact .inl ⟨o, Ao, co, HFO.out, HX.out.2.2.1, rfl, HS.out⟩
end Go.Proofs.Ytlbckkagjekhnaa.A

namespace Go.Proofs.Ytlbckkagjekhnaa.A
open Go.RowKit Go.Proofs.YtlbckkagjekhnaaW.PrintWords Go.Proofs.YtlbckkagjekhnaaW.PrintLast Go.Proofs.YtlbckkagjekhnaaW.PrintMore
attribute [local go_sem] max2_int min2_int max_two min_two max_three min_three max_four min_four   -- for this text's walks alone
set_option linter.unusedVariables false
set_option linter.unusedSimpArgs false
def spec_FollowWay.l0 : Nat → List Int → List (S69) → Int → List (List (S69)) → Option ((List (S69)) × Int)
  | 0, _, _, _, _ => none
  | k + 1, x1, x6, x7, x485000 => if x7 < (x1.length : Int) then (if 0 ≤ x7 then ((spec_l27Possible.f k x485000 x6 (rd x1 x7)).bind fun t490 => (if t490 = true then ((spec_l27After.f k x6 (rd x1 x7)).bind fun t492 => (spec_FollowWay.l0 k x1 t492 (wrap64 (x7 + 1)) x485000)) else (some (([] : List (S69)), 5)))) else (none)) else (some (x6, 0))
def spec_FollowWay.f (k : Nat) (l0_0 : List (List (S69))) (l1 : List Int) : Option ((List (S69)) × Int) := (spec_IsAssembly.f k l0_0).bind fun t485 => (if t485 = true then (if 0 ≤ (l0_0.length : Int) then (if ((l0_0.length : Int) : Int).toNat ≤ 11728124029610 then (spec_FollowWay.l0 k l1 (List.replicate ((l0_0.length : Int) : Int).toNat z69) 0 l0_0) else (none)) else (none)) else (some (([] : List (S69)), 1)))
def spec_FollowWay.T7 : Bool × List (List Nat × List Nat) := (true, [([], []), ([], []), ([], []), ([], []), ([2, 3], [2, 3]), ([4], [4]), ([0, 1, 5], [0, 1, 5]), ([6], [6])])
def spec_FollowWay.B7 : List Nat := [0, 0, 0, 0, 12, 28, 63, 127]
theorem spec_FollowWay.tab7 : rtab .any (opsOf Try.f90 7) = spec_FollowWay.T7 := by kernel_rfl
theorem spec_FollowWay.bits7 : waitsOk spec_FollowWay.T7.2 spec_FollowWay.B7 = true := by kernel_rfl
set_option maxHeartbeats 8000000 in
set_option maxRecDepth 100000 in
theorem spec_FollowWay.calls (k : Nat) (A0_0 : Option Addr) (c0_0 : Nat) (l0_0 : List (List (S69))) (A1 : Option Addr) (c1 : Nat) (l1 : List Int) (r1 : List (S69)) (r2 : Int) (w : World) (hr0_0 : Kd.C (Kd.slice 69 k69) w A0_0 l0_0.length l0_0) (hc0_0 : l0_0.length ≤ c0_0) (hr1 : Kd.C (Kd.int .i64) w A1 l1.length l1) (hc1 : l1.length ≤ c1) (h : spec_FollowWay.f k l0_0 l1 = some (r1, r2)) :
    Calls Try.prog 90 #[.agg #[.slice A0_0 l0_0.length c0_0], .slice A1 l1.length c1] w fun e w' => ∃ v0_ : Value, e = .returned (.tuple #[v0_, .int .i64 r2]) ∧ Kd.R k69 69 w' w.heap.size (fun _ => True) v0_ r1 ∧ Below w.heap.size w w' := by
 (have hu32 := Try.underlying32); (have HR0_0 := A0_ hr0_0); (have HC0_0 := A0_ hc0_0); clear hr0_0 hc0_0; (have HR1 := A0_ hr1); (have HC1 := A0_ hc1); clear hr1 hc1; (have HB := A0_ (Below.refl w.heap.size w))
 have H : ((spec_IsAssembly.f k l0_0).bind fun t485 => (if t485 = true then (if 0 ≤ (l0_0.length : Int) then (if ((l0_0.length : Int) : Int).toNat ≤ 11728124029610 then (spec_FollowWay.l0 k l1 (List.replicate ((l0_0.length : Int) : Int).toNat z69) 0 l0_0) else (none)) else (none)) else (some (([] : List (S69)), 1)))) = some (r1, r2) := h
 clear h; (replace H := Option.bind_eq_some_iff.mp H); (obtain ⟨t485, A30, H⟩ := H); (replace H : (if t485 = true then (if 0 ≤ (l0_0.length : Int) then (if ((l0_0.length : Int) : Int).toNat ≤ 11728124029610 then (spec_FollowWay.l0 k l1 (List.replicate ((l0_0.length : Int) : Int).toNat z69) 0 l0_0) else (none)) else (none)) else (some (([] : List (S69)), 1))) = some (r1, r2) := H); (have A3 := A0_ A30); clear A30; (by_cases c4 : t485 = true)
 ·subst c4; (have H1 : (if 0 ≤ (l0_0.length : Int) then (if ((l0_0.length : Int) : Int).toNat ≤ 11728124029610 then (spec_FollowWay.l0 k l1 (List.replicate ((l0_0.length : Int) : Int).toNat z69) 0 l0_0) else (none)) else (none)) = some (r1, r2) := by rw [if_pos rfl] at H; exact H); clear H; (have H := H1); clear H1; (by_cases c5 : 0 ≤ (l0_0.length : Int))
  ·(rw [if_pos c5] at H); (have c5b0 := eq_true c5); (have c5b1 : decide (0 ≤ (l0_0.length : Int)) = true := decide_eq_true c5); clear c5; (by_cases c6 : ((l0_0.length : Int) : Int).toNat ≤ 11728124029610)
   ·(rw [if_pos c6] at H); (have c6b0 := eq_true c6); (have c6b1 : decide (((l0_0.length : Int) : Int).toNat ≤ 11728124029610) = true := decide_eq_true c6); clear c6; (obtain ⟨y486, hy486⟩ : ∃ y_ : List (S69), y_ = (List.replicate ((l0_0.length : Int) : Int).toNat z69) := ⟨_, rfl⟩); (replace H : (spec_FollowWay.l0 k l1 y486 0 l0_0) = some (r1, r2) := by first | (rw [hy486]; with_reducible exact H) | (have H2_ := (Option.bind_some _ _).symm.trans H; rw [hy486]; with_reducible exact H2_) | (have H2_ := (Option.bind_some _ _).symm.trans H; with_reducible exact H2_) | with_reducible exact H | (rw [hy486]; exact H) | exact H); (have Ny486 := A0_ hy486); clear hy486; (have H' := A0_ H); clear H; (go_enter Try.func90, Try.ntmps90)
    go_wp2_with (first | ((with_reducible refine gate_dst (N := 2) rfl ?_); refine box_event ?hg (N := 2) ?hd (cs := #[.slice A0_0 l0_0.length c0_0]) (t := 32) ?hr ?_; (case hd => rfl); (case hg => rfl); (case hr => first | (go_simp; done) | (go_simp; rfl)); intro gb484 hg w7 hbox hb; have n0_ := A0_ (below_step (by repeat (first | (with_reducible first | exact HB.out | apply ba_ | apply bn_ | apply bd_) | exact HB.out)) hb); have n1_ := A0_ (hbox); have n2_ := A0_ ((by rw [hg]; exact (below_size (by repeat (first | (with_reducible first | exact HB.out | apply ba_ | apply bn_ | apply bd_) | exact HB.out))) : w.heap.size ≤ gb484)); have n3_ := A0_ ((by rw [hg]; exact (below_size (by repeat (first | (with_reducible first | exact HB.out | apply ba_ | apply bn_ | apply bd_) | exact HB.out))) : w.heap.size ≤ gb484)); clear HB; have HB := n0_; have BK484 := n1_; have GW484 := n2_; have GE484 := n3_; clear n0_ n1_ n2_ n3_; clear hb hbox hg; have hcz8_0 : w7.cell? ⟨gb484, 0, none⟩ = some (.slice A0_0 l0_0.length c0_0) := (blk_cell BK484.out 0).trans rfl; have hfz8_0 := blk_frozen BK484.out 0) | ((with_reducible refine gate_callee (f := 54) rfl ?_); refine goesL_ (some 9) rfl rfl Try.func54 (by kernel_rfl) rfl #[.agg #[.slice A0_0 l0_0.length c0_0]] rfl (by (try simp only [List.map_toArray, List.map_cons, List.map_nil]); first | done | rfl | (simp only [List.length_drop, List.length_take]; rfl)) ?_; (with_reducible refine (spec_IsAssembly.calls k _ _ l0_0 true _ ?side1 ?side2 A3.out).mono ?_); (case side1 => repeat (first | exact (Kd.C_below HR0_0.out HB.out) | (with_reducible refine Kd.C_alloc ?_ _) | (with_reducible refine Kd.C_drewN ?_ _) | (with_reducible refine Kd.C_drew ?_))); (case side2 => exact HC0_0.out); rintro e w9 ⟨rfl, hb⟩; refine ⟨_, rfl, ?_⟩; have n0_ := A0_ (blk_below (g := gb484) (o := .cells #[.slice A0_0 l0_0.length c0_0] 32 (0, 0)) (by (with_reducible repeat (first | apply gn_ | apply gd_ | apply ga_)); exact BK484.out) hb); have n1_ := A0_ (below_step (by repeat (first | (with_reducible first | exact HB.out | apply ba_ | apply bn_ | apply bd_ | refine below_set ?_ GE484.out) | exact HB.out)) hb); clear BK484; clear HB; have BK484 := n0_; have HB := n1_; clear n0_ n1_; (try clear hb); (try clear hb2); (try clear hk); (try clear hi); have hcz10_0 : w9.cell? ⟨gb484, 0, none⟩ = some (.slice A0_0 l0_0.length c0_0) := (blk_cell BK484.out 0).trans rfl; have hfz10_0 := blk_frozen BK484.out 0) | ((with_reducible refine gate_dst (N := 14) rfl ?_); refine Kd.R_make k69 _ 69 rfl (N := 14) rfl 34 _ _ rfl (l0_0.length : Int) rfl rfl Try.underlying34 (.agg #[(.int .i64 0), (.int .i64 0), (.int .i64 0)]) 24 info69 rfl (by decide) (by omega) z69 (ok := fun _ => True) (okp := fun _ => True) (k69_mkM _ _ _ z69 ) (fun _ hk => hk) trivial (of_decide_eq_true (by first | (with_reducible assumption) | assumption)) (Nat.le_trans (Nat.mul_le_mul_right _ (of_decide_eq_true (by first | (with_reducible assumption) | assumption) : (l0_0.length : Int).toNat ≤ 11728124029610)) (by omega)) (Below.refl _ _) (Nat.le_refl _) ?_; intro v487 w11 ho12 hb hg_ hnew_; clear hg_ hnew_; (first | rw [← Ny486.out] at ho12 | (simp only [Int.reduceToNat] at ho12; rw [← Ny486.out] at ho12)); have n0_ := A0_ (Kd.R_lower ho12 (below_size (by repeat (first | (with_reducible first | exact HB.out | apply ba_ | apply bn_ | apply bd_ | refine below_set ?_ GE484.out) | exact HB.out)))); have n1_ := A0_ (blk_below (g := gb484) (o := .cells #[.slice A0_0 l0_0.length c0_0] 32 (0, 0)) (by (with_reducible repeat (first | apply gn_ | apply gd_ | apply ga_)); exact BK484.out) hb); have n2_ := A0_ (below_step (by repeat (first | (with_reducible first | exact HB.out | apply ba_ | apply bn_ | apply bd_ | refine below_set ?_ GE484.out) | exact HB.out)) hb); clear BK484; clear HB; have HO488 := n0_; have BK484 := n1_; have HB := n2_; clear n0_ n1_ n2_; clear hb ho12))
    go_loopg [6, 7] k (fun kq v6 v7 w' => ∃ (x6_1 : List (S69)) (x7_1 : Int), v7 = .int .i64 x7_1 ∧ Aside0 (spec_FollowWay.l0 kq l1 x6_1 x7_1 l0_0 = some (r1, r2)) ∧ Aside0 (kq ≤ k) ∧ Aside0 (Kd.R k69 69 w' w.heap.size (fun _ => True) v6 x6_1) ∧ Aside0 (w'.heap[gb484]? = some (.cells #[(.slice A0_0 l0_0.length c0_0)] 32 (0, 0))) ∧ Aside0 (Below w.heap.size w w'))
    case atStart => exact ⟨(y486), (0), (by first | rfl | (simp; done) | (simp [*]; done)), H', ⟨Nat.le_refl _⟩, ⟨by (with_reducible repeat (first | apply Ra_ | apply Rn_ | apply Rd_)); exact HO488.out⟩, ⟨by (with_reducible repeat (first | apply gn_ | apply gd_ | apply ga_)); exact BK484.out⟩, ⟨by repeat (first | (with_reducible first | exact HB.out | apply ba_ | apply bn_ | apply bd_ | refine below_set ?_ GE484.out) | exact HB.out)⟩⟩
    case round =>
     clear H'; (try clear c1); (try clear p2); (try clear c4); (try clear c5); (try clear c5b0); (try clear c5b1); (try clear c6); (try clear c6b0); (try clear c6b1); (try clear c9); (try clear hcz10_0); (try clear hcz8_0); (try clear hfz10_0); (try clear hfz8_0); (obtain ⟨x6_1, x7_1, rfl, HA, HK1, HO_6, BK484, HB⟩ := hrel)
     cases gk with
     | zero => exact absurd HA.out (by simp [spec_FollowWay.l0])
     | succ k1 =>
      (have H := HA.out); clear HA; (simp only [spec_FollowWay.l0] at H); (by_cases c13 : x7_1 < (l1.length : Int))
      ·(rw [if_pos c13] at H); (have c13b0 : decide (x7_1 < (l1.length : Int)) = true := decide_eq_true c13); clear c13; (by_cases c14 : 0 ≤ x7_1)
       ·(rw [if_pos c14] at H); (have c14b0 : decide (0 ≤ x7_1) = true := decide_eq_true c14); clear c14; (replace H := Option.bind_eq_some_iff.mp H); (obtain ⟨t490, A150, H⟩ := H)
        replace H : (if t490 = true then ((spec_l27After.f k1 x6_1 (rd l1 x7_1)).bind fun t492 => (spec_FollowWay.l0 k1 l1 t492 (wrap64 (x7_1 + 1)) l0_0)) else (some (([] : List (S69)), 5))) = some (r1, r2) := H
        (have A15 := A0_ A150); clear A150; (by_cases c16 : t490 = true)
        ·subst c16
         have H1 : ((spec_l27After.f k1 x6_1 (rd l1 x7_1)).bind fun t492 => (spec_FollowWay.l0 k1 l1 t492 (wrap64 (x7_1 + 1)) l0_0)) = some (r1, r2) := by rw [if_pos rfl] at H; exact H
         clear H; (have H := H1); clear H1; (replace H := Option.bind_eq_some_iff.mp H); (obtain ⟨t492, A170, H⟩ := H); (replace H : (spec_FollowWay.l0 k1 l1 t492 (wrap64 (x7_1 + 1)) l0_0) = some (r1, r2) := H); (have A17 := A0_ A170); clear A170; (have H' := A0_ H); clear H; (try go_wp2); (have n0_ := A0_ (Kd.R_drew HO_6.out)); (have n1_ := A0_ (blk_drew BK484.out)); (have n2_ := A0_ (below_drew1 HB.out)); clear HO_6; clear BK484; clear HB; (have HO_6 := n0_); (have BK484 := n1_); (have HB := n2_); clear n0_ n1_ n2_; (have p489 : 0 ≤ (x7_1 : Int) := of_decide_eq_true (by first | (with_reducible assumption) | assumption)); (have q489 : x7_1 < (l1.length : Int) := of_decide_eq_true (by first | (with_reducible assumption) | assumption)); (obtain ⟨ad489, e489, hx489_0⟩ := Kd.at_int HR1.out x7_1 p489 q489); (have hw489_0 := hx489_0); (cases e489); (replace hx489_0 := (HB.out.cell (World.block_lt_of_cell? w _ hx489_0)).trans hx489_0); (replace p489 := eq_true p489); (replace q489 := eq_true q489); (obtain ⟨Ao19, co19, eo19⟩ := Kd.R_slice HO_6.out); ((first | subst eo19 | (injection eo19 with f1_ f2_ f3_; have f4_ := f1_.symm; have f5_ := f3_.symm; clear f1_ f2_ f3_; subst f4_; subst f5_)))
         refine start_ (n := 8) (S := fun w' => w'.cell? ⟨gb484, 0, none⟩ = some (.slice A0_0 l0_0.length c0_0) ∧ w'.cell? (ad489.add (x7_1).toNat) = some (.int .i64 (rd l1 x7_1))) (ds := []) #[ff,ff,ff,ff,ff,ff,ff,ff] (by kernel_rfl) rfl rfl ⟨(blk_cell BK484.out 0).trans rfl, ((HB.out.cell (World.block_lt_of_cell? w _ hw489_0)).trans hw489_0)⟩ (fun hHeld => ?_); refine with_tabW spec_FollowWay.tab7 spec_FollowWay.bits7 (fun HT_ HW_ => ?_)
         (generalize wr.drew = w18 at HO_6 BK484 HB hx489_0 hHeld ⊢)
         refine pure_ (i := 1) (N := some 22) (v := ?_) (a' := ?_) #[ff,tt,ff,ff,ff,ff,ff,ff] rfl rfl (any_of HT_.out (by kernel_rfl)) (fun _ _ _ h => h) (Or.inl ⟨by rfl, ?_⟩) ?_ ?_
         rotate_left
         ·intro w'; go_simp; with_reducible rfl
         rotate_left
         ·(simp only [Act.put, sia_, sz_, ss_, i64_w, i32_w]); rfl
         refine pure_ (i := 2) (N := some 23) (v := ?_) (a' := ?_) #[ff,tt,tt,ff,ff,ff,ff,ff] rfl rfl (any_of HT_.out (by kernel_rfl)) (fun _ _ _ h => h) (Or.inl ⟨by rfl, ?_⟩) ?_ ?_
         rotate_left
         ·intro w'; go_simp; with_reducible rfl
         rotate_left
         ·(simp only [Act.put, sia_, sz_, ss_, i64_w, i32_w]); rfl
         refine pure_ (i := 3) (N := some 24) (v := ?_) (a' := ?_) #[ff,tt,tt,tt,ff,ff,ff,ff] rfl rfl (any_of HT_.out (by kernel_rfl)) (fun _ _ _ h => h) (Or.inl ⟨by rfl, ?_⟩) ?_ ?_
         rotate_left
         ·intro w'; go_simp; with_reducible rfl
         rotate_left
         ·(simp only [Act.put, sia_, sz_, ss_, i64_w, i32_w]); rfl
         refine pure_ (i := 4) (N := some 25) (v := ?_) (a' := ?_) #[ff,tt,tt,tt,tt,ff,ff,ff] rfl rfl (any_of HT_.out (by kernel_rfl)) (fun _ _ _ h => h) (Or.inl ⟨by rfl, ?_⟩) ?_ ?_
         rotate_left
         ·intro w'; go_simp; with_reducible rfl
         rotate_left
         ·(simp only [Act.put, sia_, sz_, ss_, i64_w, i32_w]); rfl
         refine take_ (i := 0) (N := some 21) (v := ?_) (a' := ?_) #[tt,tt,tt,tt,tt,ff,ff,ff] rfl rfl (take_ofW HT_.out HW_.out (by kernel_rfl)) (fun _ _ _ h => h) (Or.inl ⟨by rfl, ?_⟩) hHeld ?_ ?_
         rotate_left
         ·(rintro w' ⟨s0, s1⟩); go_simp; with_reducible rfl
         rotate_left
         ·(simp only [Act.put, sia_, sz_, ss_, i64_w, i32_w]); rfl
         refine take_ (i := 5) (N := some 26) (v := ?_) (a' := ?_) #[tt,tt,tt,tt,tt,tt,ff,ff] rfl rfl (take_ofW HT_.out HW_.out (by kernel_rfl)) (fun _ _ _ h => h) (Or.inl ⟨by rfl, ?_⟩) hHeld ?_ ?_
         rotate_left
         ·(rintro w' ⟨s0, s1⟩); go_simp; with_reducible rfl
         rotate_left
         ·(simp only [Act.put, sia_, sz_, ss_, i64_w, i32_w]); rfl
         refine one_ (i := 6) (N := some 27) #[tt,tt,tt,tt,tt,tt,tt,ff] rfl rfl (one_of HT_.out (by kernel_rfl)) (by decide) (fun K hK => ?_)
         (refine goes_ Try.func116 (by kernel_rfl) rfl #[.agg #[.slice A0_0 l0_0.length c0_0], .slice Ao19 x6_1.length co19, .int .i64 (rd l1 x7_1)] (by rfl) rfl rfl (by (try simp only [List.map_toArray, List.map_cons, List.map_nil]); first | done | rfl | (simp only [List.length_drop, List.length_take]; rfl)) ?_); (with_reducible refine (spec_l27Possible.calls k1 _ _ l0_0 _ _ x6_1 (rd l1 x7_1) true _ ?side1 ?side2 ?side3 ?side4 A15.out).mono ?_); ((case side1 => repeat (first | exact (Kd.C_below HR0_0.out HB.out) | (with_reducible refine Kd.C_alloc ?_ _) | (with_reducible refine Kd.C_drewN ?_ _) | (with_reducible refine Kd.C_drew ?_)))); ((case side2 => exact HC0_0.out)); ((case side3 => repeat (first | exact (Kd.R_reads' HO_6.out).2.2 | (with_reducible refine Kd.C_alloc ?_ _) | (with_reducible refine Kd.C_drewN ?_ _) | (with_reducible refine Kd.C_drew ?_)))); ((case side4 => exact (Kd.R_reads' HO_6.out).2.1)); (rintro e w20 ⟨rfl, hb⟩); (refine ⟨_, rfl, ?_⟩); (have n0_ := A0_ (Kd.R_below (by (with_reducible repeat (first | apply Ra_ | apply Rn_ | apply Rd_)); exact HO_6.out) hb)); (have n1_ := A0_ (blk_below (g := gb484) (o := .cells #[.slice A0_0 l0_0.length c0_0] 32 (0, 0)) (by (with_reducible repeat (first | apply gn_ | apply gd_ | apply ga_)); exact BK484.out) hb)); (have n2_ := A0_ (below_step (by repeat (first | (with_reducible first | exact HB.out | apply ba_ | apply bn_ | apply bd_ | refine below_set ?_ GE484.out) | exact HB.out)) hb)); clear HO_6; clear BK484; clear HB; (have HO_6 := n0_); (have BK484 := n1_); (have HB := n2_); clear n0_ n1_ n2_; ((try clear hb)); ((try clear hb2)); ((try clear hk)); ((try clear hi))
         refine hK.out _ _ ⟨(blk_cell BK484.out 0).trans rfl, ((HB.out.cell (World.block_lt_of_cell? w _ hw489_0)).trans hw489_0)⟩ (fun hHeld => ?_)
         clear hK K; (refine norm_ (a' := ?_) ?_ ?_); rotate_left
         ·(show Act.put _ (some 27) _ = _); (simp only [Act.put, sia_, sz_, ss_, i64_w, i32_w]); rfl
         refine pure_ (i := 7) (N := some 28) (v := ?_) (a' := ?_) #[tt,tt,tt,tt,tt,tt,tt,tt] rfl rfl (any_of HT_.out (by kernel_rfl)) (fun _ _ _ h => h) (Or.inl ⟨by rfl, ?_⟩) ?_ ?_
         rotate_left
         ·intro w'; go_simp; with_reducible rfl
         rotate_left
         ·(simp only [Act.put, sia_, sz_, ss_, i64_w, i32_w]); rfl
         (refine done_ (done_of HT_.out (by kernel_rfl)) ?_); (have p491 : 0 ≤ (x7_1 : Int) := of_decide_eq_true (by first | (with_reducible assumption) | assumption)); (have q491 : x7_1 < (l1.length : Int) := of_decide_eq_true (by first | (with_reducible assumption) | assumption)); (obtain ⟨ad491, e491, hx491_0⟩ := Kd.at_int HR1.out x7_1 p491 q491); (obtain rfl : ad489 = ad491 := (by injection e491)); (replace hx491_0 := (HB.out.cell (World.block_lt_of_cell? w _ hx491_0)).trans hx491_0); (replace p491 := eq_true p491); (replace q491 := eq_true q491); (try go_wp2_with (first | ((with_reducible refine gate_callee (f := 104) rfl ?_); refine goesL_ (some 34) rfl rfl Try.func104 (by kernel_rfl) rfl #[.slice Ao19 x6_1.length co19, .int .i64 (rd l1 x7_1)] rfl (by (try simp only [List.map_toArray, List.map_cons, List.map_nil]); first | done | rfl | (simp only [List.length_drop, List.length_take]; rfl)) ?_; (with_reducible refine (spec_l27After.calls k1 _ _ x6_1 (rd l1 x7_1) t492 _ ?side1 ?side2 A17.out).mono ?_); (case side1 => repeat (first | exact (Kd.R_reads' HO_6.out).2.2 | (with_reducible refine Kd.C_alloc ?_ _) | (with_reducible refine Kd.C_drewN ?_ _) | (with_reducible refine Kd.C_drew ?_))); (case side2 => exact (Kd.R_reads' HO_6.out).2.1); rintro e w21 ⟨v493, rfl, ho0, hb⟩; refine ⟨_, rfl, ?_⟩; have n0_ := A0_ (Kd.R_elder' (by (with_reducible repeat (first | apply Ra_ | apply Rn_ | apply Rd_)); exact HO_6.out) (Kd.R_base ho0) hb); have n1_ := A0_ (Kd.R_lower (Kd.R_new' ho0 (Kd.R_lt (by (with_reducible repeat (first | apply Ra_ | apply Rn_ | apply Rd_)); exact HO_6.out))) (below_size (by repeat (first | (with_reducible first | exact HB.out | apply ba_ | apply bn_ | apply bd_ | refine below_set ?_ GE484.out) | exact HB.out)))); have n2_ := A0_ (blk_below (g := gb484) (o := .cells #[.slice A0_0 l0_0.length c0_0] 32 (0, 0)) (by (with_reducible repeat (first | apply gn_ | apply gd_ | apply ga_)); exact BK484.out) hb); have n3_ := A0_ (below_step (by repeat (first | (with_reducible first | exact HB.out | apply ba_ | apply bn_ | apply bd_ | refine below_set ?_ GE484.out) | exact HB.out)) hb); clear HO_6; clear BK484; clear HB; have HO_6 := n0_; have HO494 := n1_; have BK484 := n2_; have HB := n3_; clear n0_ n1_ n2_ n3_; (try clear hb); (try clear hb2); (try clear hk); (try clear hi); (try clear ho0)))); (go_roundg k1)
         case measure => have := HK1.out; omega
         case rel => exact ⟨(t492), (wrap64 (x7_1 + 1)), (by first | rfl | (simp; done) | (simp [*]; done)), H', ⟨by have := HK1.out; omega⟩, ⟨by (with_reducible repeat (first | apply Ra_ | apply Rn_ | apply Rd_)); exact Kd.R_mono HO494.out (fun _ hk => trivial)⟩, ⟨by (with_reducible repeat (first | apply gn_ | apply gd_ | apply ga_)); exact BK484.out⟩, ⟨by repeat (first | (with_reducible first | exact HB.out | apply ba_ | apply bn_ | apply bd_ | refine below_set ?_ GE484.out) | exact HB.out)⟩⟩
        ·(replace c16 := Bool.eq_false_iff.mpr c16); subst c16; (have H1 : (some (([] : List (S69)), 5)) = some (r1, r2) := by rw [if_neg (show ¬ (false = true) by decide)] at H; exact H); clear H; (have H := H1); clear H1; (simp only [Option.some.injEq, Prod.mk.injEq] at H); (obtain ⟨rfl, rfl⟩ := H); (try go_wp2); (have n0_ := A0_ (Kd.R_drew HO_6.out)); (have n1_ := A0_ (blk_drew BK484.out)); (have n2_ := A0_ (below_drew1 HB.out)); clear HO_6; clear BK484; clear HB; (have HO_6 := n0_); (have BK484 := n1_); (have HB := n2_); clear n0_ n1_ n2_; (have p489 : 0 ≤ (x7_1 : Int) := of_decide_eq_true (by first | (with_reducible assumption) | assumption)); (have q489 : x7_1 < (l1.length : Int) := of_decide_eq_true (by first | (with_reducible assumption) | assumption)); (obtain ⟨ad489, e489, hx489_0⟩ := Kd.at_int HR1.out x7_1 p489 q489); (have hw489_0 := hx489_0); (cases e489); (replace hx489_0 := (HB.out.cell (World.block_lt_of_cell? w _ hx489_0)).trans hx489_0); (replace p489 := eq_true p489); (replace q489 := eq_true q489); (obtain ⟨Ao23, co23, eo23⟩ := Kd.R_slice HO_6.out); ((first | subst eo23 | (injection eo23 with f1_ f2_ f3_; have f4_ := f1_.symm; have f5_ := f3_.symm; clear f1_ f2_ f3_; subst f4_; subst f5_)))
         refine start_ (n := 8) (S := fun w' => w'.cell? ⟨gb484, 0, none⟩ = some (.slice A0_0 l0_0.length c0_0) ∧ w'.cell? (ad489.add (x7_1).toNat) = some (.int .i64 (rd l1 x7_1))) (ds := []) #[ff,ff,ff,ff,ff,ff,ff,ff] (by kernel_rfl) rfl rfl ⟨(blk_cell BK484.out 0).trans rfl, ((HB.out.cell (World.block_lt_of_cell? w _ hw489_0)).trans hw489_0)⟩ (fun hHeld => ?_); refine with_tabW spec_FollowWay.tab7 spec_FollowWay.bits7 (fun HT_ HW_ => ?_)
         (generalize wr.drew = w22 at HO_6 BK484 HB hx489_0 hHeld ⊢)
         refine pure_ (i := 1) (N := some 22) (v := ?_) (a' := ?_) #[ff,tt,ff,ff,ff,ff,ff,ff] rfl rfl (any_of HT_.out (by kernel_rfl)) (fun _ _ _ h => h) (Or.inl ⟨by rfl, ?_⟩) ?_ ?_
         rotate_left
         ·intro w'; go_simp; with_reducible rfl
         rotate_left
         ·(simp only [Act.put, sia_, sz_, ss_, i64_w, i32_w]); rfl
         refine pure_ (i := 2) (N := some 23) (v := ?_) (a' := ?_) #[ff,tt,tt,ff,ff,ff,ff,ff] rfl rfl (any_of HT_.out (by kernel_rfl)) (fun _ _ _ h => h) (Or.inl ⟨by rfl, ?_⟩) ?_ ?_
         rotate_left
         ·intro w'; go_simp; with_reducible rfl
         rotate_left
         ·(simp only [Act.put, sia_, sz_, ss_, i64_w, i32_w]); rfl
         refine pure_ (i := 3) (N := some 24) (v := ?_) (a' := ?_) #[ff,tt,tt,tt,ff,ff,ff,ff] rfl rfl (any_of HT_.out (by kernel_rfl)) (fun _ _ _ h => h) (Or.inl ⟨by rfl, ?_⟩) ?_ ?_
         rotate_left
         ·intro w'; go_simp; with_reducible rfl
         rotate_left
         ·(simp only [Act.put, sia_, sz_, ss_, i64_w, i32_w]); rfl
         refine pure_ (i := 4) (N := some 25) (v := ?_) (a' := ?_) #[ff,tt,tt,tt,tt,ff,ff,ff] rfl rfl (any_of HT_.out (by kernel_rfl)) (fun _ _ _ h => h) (Or.inl ⟨by rfl, ?_⟩) ?_ ?_
         rotate_left
         ·intro w'; go_simp; with_reducible rfl
         rotate_left
         ·(simp only [Act.put, sia_, sz_, ss_, i64_w, i32_w]); rfl
         refine take_ (i := 0) (N := some 21) (v := ?_) (a' := ?_) #[tt,tt,tt,tt,tt,ff,ff,ff] rfl rfl (take_ofW HT_.out HW_.out (by kernel_rfl)) (fun _ _ _ h => h) (Or.inl ⟨by rfl, ?_⟩) hHeld ?_ ?_
         rotate_left
         ·(rintro w' ⟨s0, s1⟩); go_simp; with_reducible rfl
         rotate_left
         ·(simp only [Act.put, sia_, sz_, ss_, i64_w, i32_w]); rfl
         refine take_ (i := 5) (N := some 26) (v := ?_) (a' := ?_) #[tt,tt,tt,tt,tt,tt,ff,ff] rfl rfl (take_ofW HT_.out HW_.out (by kernel_rfl)) (fun _ _ _ h => h) (Or.inl ⟨by rfl, ?_⟩) hHeld ?_ ?_
         rotate_left
         ·(rintro w' ⟨s0, s1⟩); go_simp; with_reducible rfl
         rotate_left
         ·(simp only [Act.put, sia_, sz_, ss_, i64_w, i32_w]); rfl
         refine one_ (i := 6) (N := some 27) #[tt,tt,tt,tt,tt,tt,tt,ff] rfl rfl (one_of HT_.out (by kernel_rfl)) (by decide) (fun K hK => ?_)
         (refine goes_ Try.func116 (by kernel_rfl) rfl #[.agg #[.slice A0_0 l0_0.length c0_0], .slice Ao23 x6_1.length co23, .int .i64 (rd l1 x7_1)] (by rfl) rfl rfl (by (try simp only [List.map_toArray, List.map_cons, List.map_nil]); first | done | rfl | (simp only [List.length_drop, List.length_take]; rfl)) ?_); (with_reducible refine (spec_l27Possible.calls k1 _ _ l0_0 _ _ x6_1 (rd l1 x7_1) false _ ?side1 ?side2 ?side3 ?side4 A15.out).mono ?_); ((case side1 => repeat (first | exact (Kd.C_below HR0_0.out HB.out) | (with_reducible refine Kd.C_alloc ?_ _) | (with_reducible refine Kd.C_drewN ?_ _) | (with_reducible refine Kd.C_drew ?_)))); ((case side2 => exact HC0_0.out)); ((case side3 => repeat (first | exact (Kd.R_reads' HO_6.out).2.2 | (with_reducible refine Kd.C_alloc ?_ _) | (with_reducible refine Kd.C_drewN ?_ _) | (with_reducible refine Kd.C_drew ?_)))); ((case side4 => exact (Kd.R_reads' HO_6.out).2.1)); (rintro e w24 ⟨rfl, hb⟩); (refine ⟨_, rfl, ?_⟩); (have n0_ := A0_ (Kd.R_below (by (with_reducible repeat (first | apply Ra_ | apply Rn_ | apply Rd_)); exact HO_6.out) hb)); (have n1_ := A0_ (blk_below (g := gb484) (o := .cells #[.slice A0_0 l0_0.length c0_0] 32 (0, 0)) (by (with_reducible repeat (first | apply gn_ | apply gd_ | apply ga_)); exact BK484.out) hb)); (have n2_ := A0_ (below_step (by repeat (first | (with_reducible first | exact HB.out | apply ba_ | apply bn_ | apply bd_ | refine below_set ?_ GE484.out) | exact HB.out)) hb)); clear HO_6; clear BK484; clear HB; (have HO_6 := n0_); (have BK484 := n1_); (have HB := n2_); clear n0_ n1_ n2_; ((try clear hb)); ((try clear hb2)); ((try clear hk)); ((try clear hi))
         refine hK.out _ _ ⟨(blk_cell BK484.out 0).trans rfl, ((HB.out.cell (World.block_lt_of_cell? w _ hw489_0)).trans hw489_0)⟩ (fun hHeld => ?_)
         clear hK K; (refine norm_ (a' := ?_) ?_ ?_); rotate_left
         ·(show Act.put _ (some 27) _ = _); (simp only [Act.put, sia_, sz_, ss_, i64_w, i32_w]); rfl
         refine pure_ (i := 7) (N := some 28) (v := ?_) (a' := ?_) #[tt,tt,tt,tt,tt,tt,tt,tt] rfl rfl (any_of HT_.out (by kernel_rfl)) (fun _ _ _ h => h) (Or.inl ⟨by rfl, ?_⟩) ?_ ?_
         rotate_left
         ·intro w'; go_simp; with_reducible rfl
         rotate_left
         ·(simp only [Act.put, sia_, sz_, ss_, i64_w, i32_w]); rfl
         (refine done_ (done_of HT_.out (by kernel_rfl)) ?_); (try go_wp2); go_ret2; (exact ⟨_, by first | rfl | (simp [errW_none, errW_some] <;> rfl) | (simp [*, errW_none, errW_some] <;> rfl), by first | exact Kd.R_nil _ _ _ _ _ | exact Kd.N_nil _ _ _ _ _ | exact Kd.V_nil _ _ _ _ _ | exact Kd.Q_nil _ _ _ _ _ | exact Kd.S_nil _ _ _ _ _, by repeat (first | (with_reducible first | exact HB.out | apply ba_ | apply bn_ | apply bd_ | refine below_set ?_ GE484.out) | exact HB.out)⟩)
       ·(rw [if_neg c14] at H); (exact absurd H (by simp))
      ·(rw [if_neg c13] at H); (have c13b0 : decide (x7_1 < (l1.length : Int)) = false := decide_eq_false c13); clear c13; (simp only [Option.some.injEq, Prod.mk.injEq] at H); (obtain ⟨rfl, rfl⟩ := H); go_wp2; go_ret2; (exact ⟨_, by first | rfl | (simp [errW_none, errW_some] <;> rfl) | (simp [*, errW_none, errW_some] <;> rfl), by (with_reducible repeat (first | apply Ra_ | apply Rn_ | apply Rd_)); exact HO_6.out, by repeat (first | (with_reducible first | exact HB.out | apply ba_ | apply bn_ | apply bd_ | refine below_set ?_ GE484.out) | exact HB.out)⟩)
   ·(rw [if_neg c6] at H); (exact absurd H (by simp))
  ·(rw [if_neg c5] at H); (exact absurd H (by simp))
 ·(replace c4 := Bool.eq_false_iff.mpr c4); subst c4; (have H1 : (some (([] : List (S69)), 1)) = some (r1, r2) := by rw [if_neg (show ¬ (false = true) by decide)] at H; exact H); clear H; (have H := H1); clear H1; (simp only [Option.some.injEq, Prod.mk.injEq] at H); (obtain ⟨rfl, rfl⟩ := H); (go_enter Try.func90, Try.ntmps90); (go_wp2_with (first | ((with_reducible refine gate_dst (N := 2) rfl ?_); refine box_event ?hg (N := 2) ?hd (cs := #[.slice A0_0 l0_0.length c0_0]) (t := 32) ?hr ?_; (case hd => rfl); (case hg => rfl); (case hr => first | (go_simp; done) | (go_simp; rfl)); intro gb484 hg w25 hbox hb; have n0_ := A0_ (below_step (by repeat (first | (with_reducible first | exact HB.out | apply ba_ | apply bn_ | apply bd_) | exact HB.out)) hb); have n1_ := A0_ (hbox); have n2_ := A0_ ((by rw [hg]; exact (below_size (by repeat (first | (with_reducible first | exact HB.out | apply ba_ | apply bn_ | apply bd_) | exact HB.out))) : w.heap.size ≤ gb484)); have n3_ := A0_ ((by rw [hg]; exact (below_size (by repeat (first | (with_reducible first | exact HB.out | apply ba_ | apply bn_ | apply bd_) | exact HB.out))) : w.heap.size ≤ gb484)); clear HB; have HB := n0_; have BK484 := n1_; have GW484 := n2_; have GE484 := n3_; clear n0_ n1_ n2_ n3_; clear hb hbox hg; have hcz26_0 : w25.cell? ⟨gb484, 0, none⟩ = some (.slice A0_0 l0_0.length c0_0) := (blk_cell BK484.out 0).trans rfl; have hfz26_0 := blk_frozen BK484.out 0) | ((with_reducible refine gate_callee (f := 54) rfl ?_); refine goesL_ (some 9) rfl rfl Try.func54 (by kernel_rfl) rfl #[.agg #[.slice A0_0 l0_0.length c0_0]] rfl (by (try simp only [List.map_toArray, List.map_cons, List.map_nil]); first | done | rfl | (simp only [List.length_drop, List.length_take]; rfl)) ?_; (with_reducible refine (spec_IsAssembly.calls k _ _ l0_0 false _ ?side1 ?side2 A3.out).mono ?_); (case side1 => repeat (first | exact (Kd.C_below HR0_0.out HB.out) | (with_reducible refine Kd.C_alloc ?_ _) | (with_reducible refine Kd.C_drewN ?_ _) | (with_reducible refine Kd.C_drew ?_))); (case side2 => exact HC0_0.out); rintro e w27 ⟨rfl, hb⟩; refine ⟨_, rfl, ?_⟩; have n0_ := A0_ (blk_below (g := gb484) (o := .cells #[.slice A0_0 l0_0.length c0_0] 32 (0, 0)) (by (with_reducible repeat (first | apply gn_ | apply gd_ | apply ga_)); exact BK484.out) hb); have n1_ := A0_ (below_step (by repeat (first | (with_reducible first | exact HB.out | apply ba_ | apply bn_ | apply bd_ | refine below_set ?_ GE484.out) | exact HB.out)) hb); clear BK484; clear HB; have BK484 := n0_; have HB := n1_; clear n0_ n1_; (try clear hb); (try clear hb2); (try clear hk); (try clear hi)))); go_ret2; (exact ⟨_, by first | rfl | (simp [errW_none, errW_some] <;> rfl) | (simp [*, errW_none, errW_some] <;> rfl), by first | exact Kd.R_nil _ _ _ _ _ | exact Kd.N_nil _ _ _ _ _ | exact Kd.V_nil _ _ _ _ _ | exact Kd.Q_nil _ _ _ _ _ | exact Kd.S_nil _ _ _ _ _, by repeat (first | (with_reducible first | exact HB.out | apply ba_ | apply bn_ | apply bd_ | refine below_set ?_ GE484.out) | exact HB.out)⟩)
end Go.Proofs.Ytlbckkagjekhnaa.A

/- spec.l28Rest, walked. -/
namespace Go.Proofs.Ytlbckkagjekhnaa.A
open Go.RowKit Go.Proofs.YtlbckkagjekhnaaW.PrintWords Go.Proofs.YtlbckkagjekhnaaW.PrintLast Go.Proofs.YtlbckkagjekhnaaW.PrintMore
attribute [local go_sem] min2_int min_two
set_option linter.unusedVariables false
set_option linter.unusedSimpArgs false
def accR (parts : List (List Cb)) (offs : List Cb) (part i : Nat) : List (List Cb) := ((List.range i).filter fun k => decide (k ≠ part)).map fun k => shiftP (oAt offs k) (pAt parts k)
theorem accR_skip (parts : List (List Cb)) (offs : List Cb) (part i : Nat) (h : i = part) : accR parts offs part (i + 1) = accR parts offs part i := by
  unfold accR
  rw [List.range_succ, List.filter_append]
  simp [h]
theorem accR_next (parts : List (List Cb)) (offs : List Cb) (part i : Nat) (h : ¬ i = part) : accR parts offs part (i + 1) = accR parts offs part i ++ [shiftP (oAt offs i) (pAt parts i)] := by
  unfold accR
  rw [List.range_succ, List.filter_append]
  simp [h]
theorem range_erase (p : Nat) : ∀ n, p < n → (List.range n).filter (fun k => decide (k ≠ p)) = (List.range n).eraseIdx p
  | 0, h => by omega
  | n + 1, h => by
    rw [List.range_succ, List.filter_append]
    by_cases e : n = p
    · subst e
      rw [List.eraseIdx_append_of_length_le (by simp), List.length_range, Nat.sub_self]
      have h1 : (List.range n).filter (fun k => decide (k ≠ n)) = List.range n := by
        rw [List.filter_eq_self]
        intro k hk
        have := List.mem_range.1 hk
        simp
        omega
      rw [h1]
      simp
    · rw [List.eraseIdx_append_of_lt_length (by rw [List.length_range]; omega), range_erase p n (by omega)]
      simp [e]
theorem accR_all (parts : List (List Cb)) (offs : List Cb) (part : Nat) (h : part < parts.length) : accR parts offs part parts.length = (allMoved parts offs).eraseIdx part := by
  unfold accR allMoved
  rw [range_erase part _ h, erase_map]
theorem accR_flat (parts : List (List Cb)) (offs : List Cb) (part : Nat) (h : ∀ p ∈ parts, p.length ≤ 64) : ∀ i, i ≤ parts.length → (accR parts offs part i).flatten.length ≤ 64 * i
  | 0, _ => Nat.zero_le _
  | i + 1, hi => by
    have ih := accR_flat parts offs part h i (by omega)
    by_cases e : i = part
    · rw [accR_skip parts offs part i e]; omega
    · rw [accR_next parts offs part i e, List.flatten_append, List.length_append]
      have h1 := h _ (pAt_mem parts i (by omega))
      have h2 : [shiftP (oAt offs i) (pAt parts i)].flatten.length = (pAt parts i).length := by simp [shiftP]
      omega
theorem flat_pos {rows : List (List Cb)} (h : RowsOk rows) : 0 < rows.flatten.length := by
  cases rows with
  | nil => exact absurd h.1 (by simp)
  | cons p rest =>
    have hp := (h.2.2 p List.mem_cons_self).1
    rw [List.flatten_cons, List.length_append]
    omega
theorem neg_add (c q : Cb) : addC c ⟨wrap64 (-q.f0), wrap64 (-q.f1), wrap64 (-q.f2)⟩ = subC c q := by
  unfold addC subC
  simp only [S69.mk.injEq]
  unfold wrap64
  omega
theorem minC_self (a : Cb) : minC a a = a := by
  unfold minC
  simp
theorem least_same (rows : List (List Cb)) (h : RowsOk rows) : leastP rows = (rows.flatten.drop 1).foldl minC (cAt rows.flatten 0) := by
  cases rows with
  | nil => exact absurd h.1 (by simp)
  | cons p rest =>
    have hp := (h.2.2 p List.mem_cons_self).1
    cases p with
    | nil => simp at hp
    | cons a t =>
      show ((a :: t) :: rest).foldl (fun a p => p.foldl minC a) a = _
      rw [← List.foldl_flatten]
      show ((a :: t) ++ rest.flatten).foldl minC a = ((t ++ rest.flatten)).foldl minC a
      show (t ++ rest.flatten).foldl minC (minC a a) = _
      rw [minC_self]
theorem Sp.toEnd {w0 w : World} {r : Res} {rs : List Res} (h : Sp w0 (r :: rs) w) : Sp w0 (rs ++ [r]) w := by
  refine Sp.pick h (fun i => if i < rs.length then i + 1 else if i = rs.length then 0 else i) (fun i j e => ?_) (fun i s hi => ?_)
  · by_cases a : i < rs.length
    · by_cases b : j < rs.length
      · rw [if_pos a, if_pos b] at e; omega
      · rw [if_pos a, if_neg b] at e
        by_cases c : j = rs.length
        · rw [if_pos c] at e; omega
        · rw [if_neg c] at e; omega
    · rw [if_neg a] at e
      by_cases c : i = rs.length
      · rw [if_pos c] at e
        by_cases b : j < rs.length
        · rw [if_pos b] at e; omega
        · rw [if_neg b] at e
          by_cases d : j = rs.length
          · omega
          · rw [if_neg d] at e; omega
      · rw [if_neg c] at e
        by_cases b : j < rs.length
        · rw [if_pos b] at e; omega
        · rw [if_neg b] at e
          by_cases d : j = rs.length
          · rw [if_pos d] at e; omega
          · rw [if_neg d] at e; omega
  · by_cases a : i < rs.length
    · rw [if_pos a, List.getElem?_cons_succ]
      rwa [List.getElem?_append_left a] at hi
    · rw [if_neg a]
      rw [List.getElem?_append_right (by omega)] at hi
      have hl := (List.getElem?_eq_some_iff.1 hi).1
      have : i = rs.length := by simp at hl; omega
      subst this
      rw [if_pos rfl]
      rw [Nat.sub_self] at hi
      exact hi
theorem rowsOf_add (b : Nat) (L : List (Sl × List Cb)) (x : Sl × List Cb) : rowsOf b (L ++ [x]) = rowsOf b L ++ [Res.row kC 69 b (slV x.1) x.2] := by
  unfold rowsOf
  rw [List.map_append]
  rfl
theorem Sp.slStore {w0 w : World} {rs : List Res} {i e n cap : Nat} {ad : Addr} {xs : List Sl} (h : Sp w0 rs w) (hi : rs[i]? = some (Res.row kSl e w0.heap.size (.slice (some ad) n cap) xs)) (k : Nat) (hk : k < n) (s : Sl) :
    ∃ w1, (Instr.storeAt 34 (.pointer (some (ad.add k))) (slV s)).run Try.prog w = .ok () w1 ∧ Sp w0 (rs.set i (Res.row kSl e w0.heap.size (.slice (some ad) n cap) (xs.set k s))) w1 := by
  have h1 := Sp.rowStoreA (P := Try.prog) h hi k hk 34 (slV s) [slV s] rfl rfl (by kernel_rfl) (fun q hq => by rw [List.mem_singleton.1 hq]; rfl)
  have h2 := Sp.rowSetA h hi k hk s [slV s] rfl (fun okp => rfl)
  rw [show kSl.sz = 1 from rfl, Nat.mul_one] at h1 h2
  exact ⟨_, h1, h2⟩
def rstF.T7 : Bool × List (List Nat × List Nat) := (true, [([], []), ([], []), ([1], [1]), ([], []), ([2, 3], [2, 3]), ([4], [4]), ([], []), ([], []), ([6, 7], [6, 7]), ([8], [8]), ([5, 9], [5, 9]), ([10], [10]), ([0, 11, 10], [0, 11]), ([12, 12, 0, 1, 2, 3, 4, 5, 6, 7, 8, 9, 10, 11, 12], [0, 12])])
def rstF.B7 : List Nat := [0, 0, 2, 0, 14, 30, 0, 0, 192, 448, 1022, 2046, 4095, 8191]
theorem rstF.tab7 : rtab .any (opsOf Try.f46 7) = rstF.T7 := by kernel_rfl
theorem rstF.bits7 : waitsOk rstF.T7.2 rstF.B7 = true := by kernel_rfl
set_option maxHeartbeats 8000000 in
set_option maxRecDepth 100000 in
theorem sl28Rest_calls (Ap : Option Addr) (cp : Nat) (parts : List (List Cb)) (Ao : Option Addr) (co : Nat) (offs : List Cb) (part : Nat) (w : World) (hC : kP.C w Ap parts.length parts) (hcp : parts.length ≤ cp) (hO : kC.C w Ao offs.length offs) (hco : offs.length ≤ co)
    (hol : offs.length = parts.length) (hn : 2 ≤ parts.length ∧ parts.length ≤ 8) (hsz : ∀ p ∈ parts, 0 < p.length ∧ p.length ≤ 64) (hpt : part < parts.length) :
    Calls Try.prog 46 #[.agg #[.slice Ap parts.length cp], .slice Ao offs.length co, .int .i64 (part : Int)] w fun e w' => ∃ v_ : Value, e = .returned v_ ∧ Kd.S kC2 34 w' w.heap.size (fun _ => True) v_ (restP parts offs part) ∧ Below w.heap.size w w' := by
  have hu69 := Try.underlying69
  have hu34 := Try.underlying34
  have hu32 := Try.underlying32
  have HS := A0_ (Sp.start w)
  have hro := allMoved_ok parts offs part hn hsz hpt
  have hre : restP parts offs part = backP ((allMoved parts offs).eraseIdx part) := rfl
  rw [← accR_all parts offs part hpt] at hro hre
  have HC := A0_ hC
  have HCP := A0_ hcp
  have HO := A0_ hO
  have HCO := A0_ hco
  have HRO := A0_ hro
  have HRE := A0_ hre
  have HPT := A0_ hpt
  have HOL := A0_ hol
  have HN := A0_ hn
  have HSZ := A0_ hsz
  clear hC hcp hO hco hol hn hsz hpt hro hre
  go_enter Try.func46, Try.ntmps46
  go_wp2_with (first
    | ((with_reducible refine gate_dst (N := 3) rfl ?_); refine box_event ?hg (N := 3) ?hd (cs := #[.slice Ap parts.length cp]) (t := 32) ?hr ?_; (case hd => rfl); (case hg => rfl); (case hr => first | (go_simp; done) | (go_simp; rfl)); intro ga hgb_ wb_ hcb_ hbb_; have HS_ := A0_ (Sp.boxed HS.out hgb_ hcb_ hbb_); clear HS; have HS := HS_; clear HS_; clear hgb_ hcb_ hbb_)
    | ((with_reducible refine gate_dst (N := 15) rfl ?_); refine Kd.R_lit kSl _ 34 ?hg (N := 15) ?hd (xs := ([] : List Sl)) (inner := []) (ok := fun _ => True) (okp := fun _ => True) ?hr ?hp (fun _ hk => hk) trivial (Below.refl _ _) (Nat.le_refl _) (by simp) ?_; (case hd => rfl); (case hg => rfl); (case hr => first | (go_simp; done) | (go_simp; rfl)); (case hp => exact (Reps.none _ _)); intro vl_ wl_ ho_ hb_ hg_ hn_; clear hg_ hn_; have HS_ := A0_ (Sp.made' HS.out hb_ ho_); clear HS; have HS := HS_; clear HS_; clear ho_ hb_; obtain ⟨Ar, cr, ev_⟩ := Sp.slice HS.out (i := 0) rfl; subst ev_)
    | ((with_reducible refine gate_dst (N := 16) rfl ?_); refine Kd.R_lit kC _ 69 ?hg (N := 16) ?hd (xs := ([] : List Cb)) (inner := []) (ok := fun _ => True) (okp := fun _ => True) ?hr ?hp (fun _ hk => hk) trivial (Below.refl _ _) (Nat.le_refl _) (by simp) ?_; (case hd => rfl); (case hg => rfl); (case hr => first | (go_simp; done) | (go_simp; rfl)); (case hp => exact (Reps.none _ _)); intro vl_ wl_ ho_ hb_ hg_ hn_; clear hg_ hn_; have HS_ := A0_ (Sp.made' HS.out hb_ ho_); clear HS; have HS := HS_; clear HS_; clear ho_ hb_; obtain ⟨Aa, ca, ev_⟩ := Sp.slice HS.out (i := 0) rfl; subst ev_))
  have HS_ := A0_ (Sp.swap HS.out)
  clear HS
  have HS := HS_
  clear HS_
  go_loopg [7, 8, 9] (offs.length + 1) (fun kq v7 v8 v9 w' => ∃ (i : Nat) (Ar : Option Addr) (cr : Nat) (Aa : Option Addr) (ca : Nat) (M : List (Sl × List Cb)), v9 = .int .i64 (i : Int) ∧ v7 = .slice Ar M.length cr ∧ v8 = .slice Aa (M.map Prod.snd).flatten.length ca ∧ Aside0 (i ≤ offs.length ∧ kq + i = offs.length + 1 ∧ M.map Prod.snd = accR parts offs part i) ∧ Aside0 (Sp w ([Res.row kSl 34 w.heap.size (.slice Ar M.length cr) (M.map Prod.fst), Res.row kC 69 w.heap.size (.slice Aa (M.map Prod.snd).flatten.length ca) (M.map Prod.snd).flatten, Res.blk ga #[.slice Ap parts.length cp] 32] ++ rowsOf w.heap.size M) w'))
  case atStart => exact ⟨0, Ar, cr, Aa, ca, [], rfl, rfl, rfl, ⟨by omega, by omega, rfl⟩, HS⟩
  case round =>
    clear HS
    obtain ⟨i, Ar, cr, Aa, ca, M, rfl, rfl, rfl, HX, HS⟩ := hrel
    obtain ⟨k1, rfl⟩ : ∃ k1, gk = k1 + 1 := ⟨gk - 1, by have := HX.out; omega⟩
    by_cases ci : i < offs.length
    · have ci0 : decide (i < offs.length) = true := decide_eq_true ci
      have q0 : (0 ≤ (i : Int)) = True := eq_true (by omega)
      have q1 : ((i : Int) < (offs.length : Int)) = True := eq_true (by omega)
      have q2 : (i < offs.length) = True := eq_true ci
      have HW := A0_ (wrap_succ i (by have := HOL.out; have := HN.out.2; omega))
      by_cases hip : i = part
      · have e0 : (i = part) = True := eq_true hip
        have e1 : ((i : Int) = (part : Int)) = True := eq_true (by omega)
        have e2 : ((i : Int) == (part : Int)) = true := by rw [beq_iff_eq]; omega
        have e3 : ((i : Int) != (part : Int)) = false := by rw [bne_eq_false_iff_eq]; omega
        have HSK := A0_ (accR_skip parts offs part i hip)
        have HCI := A0_ ci
        clear hip ci
        go_wp2
        go_roundg k1
        case measure => omega
        case rel =>
          rw [HW.out]
          exact ⟨i + 1, Ar, cr, Aa, ca, M, rfl, rfl, rfl, ⟨by have := HCI.out; omega, by have := HX.out; omega, by rw [HSK.out]; exact HX.out.2.2⟩, HS⟩
      · have e0 : (i = part) = False := eq_false hip
        have e1 : ((i : Int) = (part : Int)) = False := eq_false (by omega)
        have e2 : ((i : Int) == (part : Int)) = false := by rw [beq_eq_false_iff_ne]; omega
        have e3 : ((i : Int) != (part : Int)) = true := by rw [bne_iff_ne]; omega
        have HSK := A0_ (accR_next parts offs part i hip)
        have HCI := A0_ ci
        have hml : M.length ≤ i := by
          have := congrArg List.length HX.out.2.2
          rw [List.length_map] at this
          rw [this]
          unfold accR
          rw [List.length_map]
          exact Nat.le_trans (List.length_filter_le _ _) (by rw [List.length_range]; exact Nat.le_refl _)
        have HMN := A0_ (show M.length ≤ 8 by have := HOL.out; have := HN.out.2; omega)
        obtain ⟨adp, Ai, ci_, e, hx0, hx1, hx2⟩ := at_L4 HC.out (i : Int) (by omega) (by have := HOL.out; omega)
        subst e
        rw [show rd_L4 parts (i : Int) = pAt parts i from rfl] at hx0 hx1 hx2
        rw [Int.toNat_natCast] at hx0
        obtain ⟨ado, e, hy0, hy1, hy2⟩ := at_T69 HO.out (i : Int) (by omega) (by omega)
        subst e
        rw [show rd_T69 offs (i : Int) = oAt offs i from rfl] at hy0 hy1 hy2
        rw [Int.toNat_natCast] at hy0 hy1 hy2
        have hpz := HSZ.out _ (pAt_mem parts i (by have := HOL.out; omega))
        obtain ⟨p, hp⟩ : ∃ p, p = pAt parts i := ⟨_, rfl⟩
        obtain ⟨o, ho⟩ : ∃ o, o = oAt offs i := ⟨_, rfl⟩
        rw [← hp, ← ho] at HSK
        rw [← hp] at hx0 hx1 hx2 hpz
        rw [← ho] at hy0 hy1 hy2
        obtain ⟨KM, hKM⟩ := (smove_ev p o (by omega)).rounds
        obtain ⟨m, hm⟩ : ∃ m, m = shiftP o p := ⟨_, rfl⟩
        rw [show (p.map fun c => addC c o) = m from hm.symm] at hKM
        rw [← hm] at HSK
        have HML := A0_ (show m.length ≤ 64 by rw [hm, shiftP_len]; exact hpz.2)
        have HP0 := A0_ hx0
        have HP1 := A0_ hx1
        have HP2 := A0_ hx2
        have HX0 := A0_ hy0
        have HX1 := A0_ hy1
        have HX2 := A0_ hy2
        have HKM := A0_ hKM
        obtain ⟨FL, hfl⟩ : ∃ FL, FL = (M.map Prod.snd).flatten := ⟨_, rfl⟩
        rw [← hfl] at HS ⊢
        have HFL := A0_ hfl
        have p1 : ((i : Int) < (parts.length : Int)) = True := eq_true (by have := HOL.out; omega)
        have p2 : (i < parts.length) = True := eq_true (by have := HOL.out; omega)
        clear hip ci hml hx0 hx1 hx2 hy0 hy1 hy2 hpz hp ho hKM hm hfl
        go_wp2
        have HS_ := A0_ (show Sp w ([Res.row kSl 34 w.heap.size (.slice Ar M.length cr) (M.map Prod.fst), Res.row kC 69 w.heap.size (.slice Aa FL.length ca) FL, Res.blk ga #[.slice (some adp) parts.length cp] 32] ++ rowsOf w.heap.size M) wr.drew from Sp.drew HS.out)
        clear HS
        have HS := HS_
        clear HS_
        refine start_ (n := 14) (S := fun w' => w'.cell? ⟨ga, 0, none⟩ = some (.slice (some adp) parts.length cp) ∧ w'.cell? (adp.add i) = some (.slice Ai p.length ci_) ∧ w'.cell? (ado.add (i * 3)) = some (.int .i64 o.f0) ∧ w'.cell? ⟨(ado.add (i * 3)).block, (ado.add (i * 3)).off + 1, none⟩ = some (.int .i64 o.f1) ∧ w'.cell? ⟨(ado.add (i * 3)).block, (ado.add (i * 3)).off + 2, none⟩ = some (.int .i64 o.f2)) (ds := []) #[false, false, false, false, false, false, false, false, false, false, false, false, false, false] (by kernel_rfl) rfl rfl (⟨(blk_cell (Sp.blk HS.out (i := 2) rfl).1 0).trans rfl, pw_cell_below HS.out.below HP0.out, pw_cell_below HS.out.below HX0.out, pw_cell_below HS.out.below HX1.out, pw_cell_below HS.out.below HX2.out⟩) (fun hHeld => ?_)
        refine with_tabW rstF.tab7 rstF.bits7 (fun HT_ HW_ => ?_)
        generalize wr.drew = wD at HS hHeld ⊢
        refine on_ 0 (some 26) ?_
        refine on_ 1 (some 27) ?_
        refine tk_ 2 (some 28) ?_
        refine on_ 3 (some 29) ?_
        refine on_ 4 (some 30) ?_
        refine tk_ 5 (some 31) ?_
        refine on_ 6 (some 32) ?_
        refine on_ 7 (some 33) ?_
        refine on_ 8 (some 34) ?_
        refine tk_ 9 (some 35) ?_
        refine o1_ 10 (some 36) (fun K hK => ?_)
        refine goes_ Try.func71 (by kernel_rfl) rfl #[.slice Ai p.length ci_, .agg #[.int .i64 o.f0, .int .i64 o.f1, .int .i64 o.f2]] (by rfl) rfl rfl (by (try simp only [List.map_toArray, List.map_cons, List.map_nil]); first | done | rfl | (simp only [List.length_drop, List.length_take]; rfl)) ?_
        refine (spec_l09Move.calls KM Ai ci_ p o.f0 o.f1 o.f2 m _ (Kd.C_below HP2.out HS.out.below) HP1.out HKM.out).mono ?_
        rintro e wA11 ⟨vA11, rfl, ho, hb⟩
        refine ⟨_, rfl, ?_⟩
        have HS_ := A0_ (Sp.made' HS.out hb ho)
        clear HS
        have HS := HS_
        clear HS_
        clear hb ho
        obtain ⟨AA11, cA11, rfl⟩ := Sp.slice HS.out (i := 0) rfl
        refine hK.out _ _ (⟨(blk_cell (Sp.blk HS.out (i := 3) rfl).1 0).trans rfl, pw_cell_below HS.out.below HP0.out, pw_cell_below HS.out.below HX0.out, pw_cell_below HS.out.below HX1.out, pw_cell_below HS.out.below HX2.out⟩) (fun hHeld => ?_)
        clear hK K
        refine nm_ (some 36) ?_
        refine o1_ 11 (some 37) (fun K hK => ?_)
        refine Kd.R_lit_step kSl _ 34 ?hg (N := 37) ?hd (xs := ([(AA11, (m).length, cA11)] : List Sl)) (inner := [.slice AA11 (m).length cA11]) (ok := fun _ => True) (okp := fun _ => True) ?hr ?hp (fun _ hk => hk) trivial (Below.refl _ _) (Nat.le_refl _) (by simp) ?_
        (case hd => rfl)
        (case hg => rfl)
        (case hr => first | (go_simp; done) | (go_simp; rfl))
        (case hp => exact (Reps.one rfl (Reps.none _ _)))
        intro vA12 wA12 ho hb hg_ hnew_
        clear hg_ hnew_
        have HS_ := A0_ (Sp.made' HS.out hb ho)
        clear HS
        have HS := HS_
        clear HS_
        clear hb ho
        obtain ⟨AA12, cA12, eA_⟩ := Sp.slice HS.out (i := 0) rfl
        subst eA_
        refine hK.out _ _ (⟨(blk_cell (Sp.blk HS.out (i := 4) rfl).1 0).trans rfl, pw_cell_below HS.out.below HP0.out, pw_cell_below HS.out.below HX0.out, pw_cell_below HS.out.below HX1.out, pw_cell_below HS.out.below HX2.out⟩) (fun hHeld => ?_)
        clear hK K
        refine nm_ (some 37) ?_
        refine o1_ 12 (some 38) (fun K hK => ?_)
        obtain ⟨fp_, ho_, hf_, hc_⟩ := Sp.row HS.out (i := 2) rfl
        refine Kd.R_append_rows_step kSl w.heap.size (by rfl) (.tmp 26) (.tmp 37) 28 34 (.slice none 0 0) 24 rfl Try.underlying28 info34 rfl (by decide) (by omega) _ (M.map Prod.fst) ([(AA11, (m).length, cA11)] : List Sl) _ _ _ _ (fun _ => False) rfl rfl ho_ (Sp.reads HS.out (i := 0) rfl).2.2 (fun _ _ h => h) (fun _ h => h.elim) (fun _ h => .inr h) HS.out.below HS.out.below.size ?aL ?_
        (case aL => have h1_ := HMN.out; simp only [List.length_cons, List.length_nil, List.length_map]; omega)
        intro vA13 wA13 ho hb hg hat
        have HS_ := A0_ (hc_ _ _ _ ho hg)
        clear HS
        have HS := HS_
        clear HS_
        clear ho hb hg hat ho_ hf_ hc_ fp_
        obtain ⟨AA13, cA13, eA_⟩ := Sp.slice HS.out (i := 2) rfl
        subst eA_
        refine hK.out _ _ (⟨(blk_cell (Sp.blk HS.out (i := 4) rfl).1 0).trans rfl, pw_cell_below HS.out.below HP0.out, pw_cell_below HS.out.below HX0.out, pw_cell_below HS.out.below HX1.out, pw_cell_below HS.out.below HX2.out⟩) (fun hHeld => ?_)
        clear hK K
        refine nm_ (some 38) ?_
        refine on_ 13 (some 7) ?_
        refine dn_ ?_
        have HS_ := A0_ (Sp.arr (pre := [Res.row kSl 34 w.heap.size (.slice AA12 (([(AA11, (m).length, cA11)] : List Sl)).length cA12) (([(AA11, (m).length, cA11)] : List Sl)), Res.row kC 69 w.heap.size (.slice AA11 (m).length cA11) (m), Res.row kSl 34 w.heap.size (.slice AA13 ((M.map Prod.fst) ++ ([(AA11, (m).length, cA11)] : List Sl)).length cA13) ((M.map Prod.fst) ++ ([(AA11, (m).length, cA11)] : List Sl)), Res.row kC 69 w.heap.size (.slice Aa FL.length ca) FL, Res.blk ga #[.slice (some adp) parts.length cp] 32]) (pre' := [Res.row kC 69 w.heap.size (.slice AA11 (m).length cA11) (m), Res.row kSl 34 w.heap.size (.slice AA13 ((M.map Prod.fst) ++ ([(AA11, (m).length, cA11)] : List Sl)).length cA13) ((M.map Prod.fst) ++ ([(AA11, (m).length, cA11)] : List Sl)), Res.row kC 69 w.heap.size (.slice Aa FL.length ca) FL, Res.blk ga #[.slice (some adp) parts.length cp] 32, Res.row kSl 34 w.heap.size (.slice AA12 (([(AA11, (m).length, cA11)] : List Sl)).length cA12) (([(AA11, (m).length, cA11)] : List Sl))]) (rest := rowsOf w.heap.size M) [1, 2, 3, 4, 0] HS.out rfl rfl)
        clear HS
        have HS := HS_
        clear HS_
        have hl_ : (M.map Prod.fst ++ [((AA11, m.length, cA11) : Sl)]).length = M.length + 1 := by rw [List.length_append, List.length_map]; rfl
        have HS_ := Sp.out HS.out 4
        rw [hl_] at HS_
        clear HS hl_
        have HS : Aside0 (Sp w ([Res.row kC 69 w.heap.size (.slice AA11 m.length cA11) m, Res.row kSl 34 w.heap.size (.slice AA13 (M.length + 1) cA13) (M.map Prod.fst ++ [((AA11, m.length, cA11) : Sl)]), Res.row kC 69 w.heap.size (.slice Aa FL.length ca) FL, Res.blk ga #[.slice (some adp) parts.length cp] 32] ++ rowsOf w.heap.size M) wA13) := A0_ HS_
        clear HS_
        obtain ⟨adr, e_⟩ := Sp.some_ HS.out (i := 1) rfl (Nat.succ_pos _)
        subst e_
        have hxl := Sp.slCell HS.out (i := 1) rfl M.length (Nat.lt_succ_self _)
        rw [show (M.map Prod.fst ++ [((AA11, m.length, cA11) : Sl)]).getD M.length (none, 0, 0) = (AA11, m.length, cA11) by rw [List.getD_eq_getElem?_getD, List.getElem?_append_right (by rw [List.length_map]; exact Nat.le_refl _), List.length_map, Nat.sub_self]; rfl] at hxl
        replace hxl : (wA13).cell? (adr.add M.length) = some (.slice AA11 m.length cA11) := hxl
        have w1 : wrap64 ((M.length : Int) + 1 - 1) = (M.length : Int) := by have := HMN.out; unfold wrap64; omega
        have w2 : wrap64 (M.length : Int) = (M.length : Int) := by have := HMN.out; unfold wrap64; omega
        have w3 : (0 ≤ (M.length : Int)) = True := eq_true (by omega)
        have w4 : ((M.length : Int) < (M.length : Int) + 1) = True := eq_true (by omega)
        have w5 : (M.length < M.length + 1) = True := eq_true (by omega)
        have HFB := A0_ (show FL.length ≤ 1000 by rw [HFL.out, HX.out.2.2]; have h1_ := accR_flat parts offs part (fun p hp => (HSZ.out p hp).2) i (by have := HCI.out; have := HOL.out; omega); have h2_ := HCI.out; have h3_ := HOL.out; have h4_ := HN.out.2; omega)
        go_wp2_with (first
          | ((with_reducible refine gate_builtin (b := .append) (xs := #[.tmp 39, .tmp 45]) rfl ?_); at_builtin; obtain ⟨fp_, ho_, hf_, hc_⟩ := Sp.row HS.out (i := 2) rfl; refine Kd.R_append_rows kC (w0 := w) w.heap.size rfl (.tmp 39) (.tmp 45) 34 69 ((.agg #[(.int .i64 0), (.int .i64 0), (.int .i64 0)])) 24 rfl Try.underlying34 info69 rfl (by decide) (by omega) (.slice Aa FL.length ca) (FL) (m) _ _ _ _ (fun _ => False) rfl rfl ho_ ((Sp.reads HS.out (i := 0) rfl).2.2) (fun _ _ h => h) (fun _ h => h.elim) (fun _ h => Or.inr h) HS.out.below HS.out.below.size ?aL ?_; (case aL => have h1_ := HFB.out; have h2_ := HML.out; omega); intro va_ wa_ ho hb hg hat; have HS_ := A0_ (hc_ _ _ _ ho hg); clear HS; have HS := HS_; clear HS_; clear ho hb hg hat hc_ hf_ ho_ fp_; obtain ⟨A2, c2_, ev_⟩ := Sp.slice HS.out (i := 2) rfl; subst ev_; clear hxl))
        go_roundg k1
        case measure => omega
        case rel =>
          rw [HW.out]
          have hs1 : Sp w ([Res.row kSl 34 w.heap.size (.slice (some adr) (M.length + 1) cA13) (M.map Prod.fst ++ [((AA11, m.length, cA11) : Sl)]), Res.row kC 69 w.heap.size (.slice A2 (FL ++ m).length c2_) (FL ++ m), Res.blk ga #[.slice (some adp) parts.length cp] 32] ++ (rowsOf w.heap.size M ++ [Res.row kC 69 w.heap.size (.slice AA11 m.length cA11) m])) _ := Sp.toEnd HS.out
          have e1 : M.map Prod.fst ++ [((AA11, m.length, cA11) : Sl)] = (M ++ [((AA11, m.length, cA11), m)]).map Prod.fst := by rw [List.map_append]; rfl
          have e2 : FL ++ m = ((M ++ [(((AA11, m.length, cA11) : Sl), m)]).map Prod.snd).flatten := by rw [List.map_append, List.flatten_append, HFL.out]; simp
          have e3 : M.length + 1 = (M ++ [(((AA11, m.length, cA11) : Sl), m)]).length := by rw [List.length_append]; rfl
          rw [show rowsOf w.heap.size M ++ [Res.row kC 69 w.heap.size (.slice AA11 m.length cA11) m] = rowsOf w.heap.size (M ++ [((AA11, m.length, cA11), m)]) from (rowsOf_add w.heap.size M ((AA11, m.length, cA11), m)).symm, e1, e2, e3] at hs1
          exact ⟨i + 1, some adr, cA13, A2, c2_, M ++ [((AA11, m.length, cA11), m)], rfl, by rw [← e3], by rw [← e2, List.length_append], ⟨by have := HCI.out; omega, by have := HX.out; omega, by rw [HSK.out, List.map_append, HX.out.2.2]; rfl⟩, ⟨hs1⟩⟩
    · have ci0 : decide (i < offs.length) = false := decide_eq_false ci
      have q1 : ((i : Int) < (offs.length : Int)) = False := eq_false (by omega)
      have q2 : (i < offs.length) = False := eq_false ci
      have hi : i = parts.length := by have := HX.out; have := HOL.out; omega
      have hms := HX.out.2.2
      rw [hi] at hms
      obtain ⟨rows, hrw⟩ : ∃ rows, rows = accR parts offs part parts.length := ⟨_, rfl⟩
      have hfl0 := accR_flat parts offs part (fun p hp => (HSZ.out p hp).2) parts.length (Nat.le_refl _)
      rw [← hrw] at HRO HRE hms hfl0
      have hml : M.length = rows.length := by rw [← hms, List.length_map]
      rw [hms, hml] at HS ⊢
      have HMS := A0_ hms
      have HFB := A0_ (show rows.flatten.length ≤ 1000 by have := HN.out.2; omega)
      have HFP := A0_ (flat_pos HRO.out)
      have HLS := A0_ (least_same rows HRO.out)
      obtain ⟨FL, hFL⟩ : ∃ FL, FL = rows.flatten := ⟨_, rfl⟩
      rw [← hFL] at HS HFB HFP HLS ⊢
      have HS_ := A0_ (Sp.out HS.out 2)
      clear HS
      have HS : Aside0 (Sp w ([Res.row kSl 34 w.heap.size (.slice Ar rows.length cr) (M.map Prod.fst), Res.row kC 69 w.heap.size (.slice Aa FL.length ca) FL] ++ rowsOf w.heap.size M) wr) := HS_
      clear HS_
      obtain ⟨adr, e_⟩ := Sp.some_ HS.out (i := 0) rfl HRO.out.1
      subst e_
      obtain ⟨ada, e_⟩ := Sp.some_ HS.out (i := 1) rfl HFP.out
      subst e_
      obtain ⟨hx0, hx1, hx2⟩ := Sp.cubeCell0 HS.out (i := 1) rfl HFP.out
      obtain ⟨a0, ha0⟩ : ∃ a0, a0 = cAt FL 0 := ⟨_, rfl⟩
      rw [← ha0] at hx0 hx1 hx2 HLS
      have p0 : (0 < FL.length) = True := eq_true HFP.out
      have p1 : ((0 : Int) < (FL.length : Int)) = True := eq_true (by have := HFP.out; omega)
      clear hi ci hms hrw hfl0 hml hFL ha0 HX HC HCP HO HCO HOL HN HSZ HPT
      go_wp2
      go_quiet (fail)
      have HS_ := A0_ (Sp.drewN HS.out nq)
      clear HS hx0 hx1 hx2
      have HS := HS_
      clear HS_
      go_wp2
      go_loopg [10, 11, 12, 13] (FL.length + 1) (fun kq v10 v11 v12 v13 w' => ∃ (i : Nat) (r : Cb), v13 = .int .i64 (i : Int) ∧ v10 = .int .i64 r.f0 ∧ v11 = .int .i64 r.f1 ∧ v12 = .int .i64 r.f2 ∧ Aside0 (1 ≤ i ∧ i ≤ FL.length ∧ kq + i = FL.length + 2 ∧ r = ((FL.take i).drop 1).foldl minC a0) ∧ Aside0 (Sp w ([Res.row kSl 34 w.heap.size (.slice (some adr) rows.length cr) (M.map Prod.fst), Res.row kC 69 w.heap.size (.slice (some ada) FL.length ca) FL] ++ rowsOf w.heap.size M) w'))
      case atStart => exact ⟨1, a0, rfl, rfl, rfl, rfl, ⟨by omega, by have := HFP.out; omega, by omega, by rw [List.drop_eq_nil_of_le (by rw [List.length_take]; omega)]; rfl⟩, HS⟩
      case round =>
        clear HS p0 p1
        obtain ⟨i, r, rfl, rfl, rfl, rfl, HX, HS⟩ := hrel
        obtain ⟨k1, rfl⟩ : ∃ k1, gk = k1 + 1 := ⟨gk - 1, by have := HX.out; omega⟩
        by_cases ci : i < FL.length
        · have ci0 : decide (i < FL.length) = true := decide_eq_true ci
          have q0 : (0 ≤ (i : Int)) = True := eq_true (by omega)
          have q1 : ((i : Int) < (FL.length : Int)) = True := eq_true (by omega)
          have q2 : (i < FL.length) = True := eq_true ci
          have HW := A0_ (wrap_succ i (by have := HFB.out; omega))
          obtain ⟨hx0, hx1, hx2⟩ := Sp.cubeCell HS.out (i := 1) rfl i ci
          have HNX := A0_ (show ((FL.take (i + 1)).drop 1).foldl minC a0 = minC r (cAt FL i) by
            rw [List.take_succ_eq_append_getElem ci, List.drop_append_of_le_length (by rw [List.length_take]; have := HX.out.1; omega), List.foldl_append, ← HX.out.2.2.2, show cAt FL i = FL[i] from getD_at FL _ i ci]
            rfl)
          have HCI := A0_ ci
          obtain ⟨c, hc⟩ : ∃ c, c = cAt FL i := ⟨_, rfl⟩
          rw [← hc] at hx0 hx1 hx2 HNX
          clear ci hc
          go_wp2
          all_goals
            go_roundg k1
            case measure => omega
            case rel =>
              rw [HW.out]
              refine ⟨i + 1, minC r c, rfl, ?_, ?_, ?_, ⟨by omega, by have := HCI.out; omega, by have := HX.out; omega, HNX.out.symm⟩, HS⟩
              all_goals
                unfold minC
                simp only [*]
                first | rfl | (simp only [if_true, if_false]; done) | (congr 1; split <;> omega)
        · have ci0 : decide (i < FL.length) = false := decide_eq_false ci
          have q1 : ((i : Int) < (FL.length : Int)) = False := eq_false (by omega)
          have q2 : (i < FL.length) = False := eq_false ci
          have hi : i = FL.length := by have := HX.out; omega
          have HQL := A0_ (show r = leastP rows by rw [HX.out.2.2.2, hi, List.take_length]; exact HLS.out.symm)
          clear ci hi HX
          go_wp2
          clear ci0 q1 q2
          have HMO := A0_ (rowsOk_mapK HRO.out r)
          have HML := A0_ (show M.length = rows.length by rw [← HMS.out, List.length_map])
          go_loopg [14] (rows.length + 1) (fun kq v14 w' => ∃ (i : Nat) (M2 : List (Sl × List Cb)), v14 = .int .i64 (i : Int) ∧ Aside0 (i ≤ rows.length ∧ kq + i = rows.length + 1 ∧ M2.map Prod.snd = mapK (downP r) rows i) ∧ Aside0 (Sp w ([Res.row kSl 34 w.heap.size (.slice (some adr) rows.length cr) (M2.map Prod.fst), Res.row kC 69 w.heap.size (.slice (some ada) FL.length ca) FL] ++ rowsOf w.heap.size M2) w'))
          case atStart => exact ⟨0, M, rfl, ⟨by omega, by omega, by rw [HMS.out]; rfl⟩, HS⟩
          case round =>
            clear HS
            obtain ⟨i, M2, rfl, HX, HS⟩ := hrel
            obtain ⟨k1, rfl⟩ : ∃ k1, gk = k1 + 1 := ⟨gk - 1, by have := HX.out; omega⟩
            by_cases ci : i < rows.length
            · have ci0 : decide (i < rows.length) = true := decide_eq_true ci
              have q0 : (0 ≤ (i : Int)) = True := eq_true (by omega)
              have q1 : ((i : Int) < (rows.length : Int)) = True := eq_true (by omega)
              have q2 : (i < rows.length) = True := eq_true ci
              have HW := A0_ (wrap_succ i (by have := HRO.out.2.1; omega))
              have hm2 : M2.length = rows.length := by have := congrArg List.length HX.out.2.2; rwa [List.length_map, mapK_len] at this
              have hh := Sp.slCell HS.out (i := 0) rfl i ci
              obtain ⟨adi, cc, p, hm, hp, hsp⟩ := rows_at2 HS.out (HX.out.2.2.symm ▸ HMO.out i) i (by rw [hm2]; exact ci)
              rw [map_getD Prod.fst M2 i _ _ hm] at hh
              replace hh : wr.cell? (adr.add i) = some (.slice (some adi) p.length cc) := hh
              have hpr : rows[i] = p := by
                have h1 := mapK_at (downP r) rows i ci
                rw [← HX.out.2.2, List.getElem?_map, hm] at h1
                exact (Option.some.inj h1).symm
              obtain ⟨KM, hKM⟩ := (smove_ev p ⟨wrap64 (-r.f0), wrap64 (-r.f1), wrap64 (-r.f2)⟩ (by omega)).rounds
              obtain ⟨m, hmd⟩ : ∃ m, m = downP r p := ⟨_, rfl⟩
              rw [show (p.map fun c => addC c ⟨wrap64 (-r.f0), wrap64 (-r.f1), wrap64 (-r.f2)⟩) = m by rw [hmd]; unfold downP; exact List.map_congr_left (fun c _ => neg_add c r)] at hKM
              have HKM := A0_ hKM
              have HMI := A0_ hm
              have HSS := A0_ (show (M2.map Prod.snd).set i m = mapK (downP r) rows (i + 1) by rw [HX.out.2.2, hmd, ← hpr]; exact mapK_set (downP r) rows i ci)
              have HCI := A0_ (show i < M2.length by rw [hm2]; exact ci)
              have HCR := A0_ ci
              obtain ⟨RS, hRS⟩ : ∃ RS, RS = (rowsOf w.heap.size M2).eraseIdx i := ⟨_, rfl⟩
              rw [← hRS] at hsp
              have HRS := A0_ hRS
              clear HS
              have HS := A0_ hsp
              clear ci hm hp hRS hsp hpr hm2 hKM hmd
              go_wp2_with (first
                | (go_at_call 71; go_loud (refine (spec_l09Move.calls KM (some adi) cc p (wrap64 (-r.f0)) (wrap64 (-r.f1)) (wrap64 (-r.f2)) m _ (Sp.reads HS.out (i := 0) rfl).2.2 (Sp.reads HS.out (i := 0) rfl).2.1 HKM.out).mono ?_; rintro e wm_ ⟨vm_, rfl, ho_, hb_⟩; have HS_ := A0_ (Sp.out (Sp.made' HS.out hb_ ho_) 1); clear HS hb_ ho_ hh; have HS : Aside0 (Sp w ([Res.row kC 69 w.heap.size vm_ m, Res.row kSl 34 w.heap.size (.slice (some adr) rows.length cr) (M2.map Prod.fst), Res.row kC 69 w.heap.size (.slice (some ada) FL.length ca) FL] ++ RS) wm_) := HS_; clear HS_; obtain ⟨Am, cm, e_⟩ := Sp.slice HS.out (i := 0) rfl; subst e_))
                | ((with_reducible refine gate_store (t := 34) (p := 106) rfl ?_); go_loud (obtain ⟨w1_, hr_, hs_⟩ := Sp.slStore HS.out (i := 1) rfl i HCR.out (Am, m.length, cm); refine store_event rfl rfl rfl (exec_store (v := .pointer (some (adr.add i))) (u := .slice Am m.length cm) rfl ?hp ?hx hr_) ?_; (case hp => first | rfl | (go_simp; done) | (go_simp; rfl)); (case hx => first | rfl | (go_simp; done) | (go_simp; rfl)); intro ws_ hw_; rw [← hw_] at hs_; clear hr_ hw_ HS; have HS := A0_ hs_; clear hs_)))
              go_roundg k1
              case measure => omega
              case rel =>
                rw [HW.out]
                have hb : Sp w ([Res.row kC 69 w.heap.size (slV (Am, m.length, cm)) m, Res.row kSl 34 w.heap.size (.slice (some adr) rows.length cr) ((M2.map Prod.fst).set i (Am, m.length, cm)), Res.row kC 69 w.heap.size (.slice (some ada) FL.length ca) FL] ++ RS) _ := HS.out
                rw [HRS.out] at hb
                have hb2 := Sp.backRow HCI.out hb
                have e1 : (M2.map Prod.fst).set i (Am, m.length, cm) = (M2.set i ((Am, m.length, cm), m)).map Prod.fst := by rw [List.map_set]
                rw [e1] at hb2
                exact ⟨i + 1, M2.set i ((Am, m.length, cm), m), rfl, ⟨by have := HCR.out; omega, by have := HX.out; omega, by rw [List.map_set]; exact HSS.out⟩, ⟨hb2⟩⟩
            · have ci0 : decide (i < rows.length) = false := decide_eq_false ci
              have q1 : ((i : Int) < (rows.length : Int)) = False := eq_false (by omega)
              have q2 : (i < rows.length) = False := eq_false ci
              have hi : i = rows.length := by have := HX.out; omega
              have HEN := A0_ (show M2.map Prod.snd = backP rows by rw [HX.out.2.2, hi, mapK_all, HQL.out]; rfl)
              clear ci hi
              go_wp2
              go_ret
              rw [HRE.out, ← HEN.out]
              have h1 := Sp.out HS.out 1
              refine ⟨_, rfl, Sp.joinRows (rs := []) ?_, HS.out.below⟩
              rw [List.append_nil]
              exact h1
end Go.Proofs.Ytlbckkagjekhnaa.A



/- spec.FollowWay: what it answers. No program in sight. -/
namespace Go.Proofs.Ytlbckkagjekhnaa.A
open Go.RowKit Go.Proofs.YtlbckkagjekhnaaW.PrintWords Go.Proofs.YtlbckkagjekhnaaW.PrintLast Go.Proofs.YtlbckkagjekhnaaW.PrintMore
set_option linter.unusedVariables false
set_option linter.unusedSimpArgs false
/-- A move of any number. -/
theorem poss_any (parts : List (List Cb)) (o : List Cb) (hl : o.length = parts.length) (h1 : 1 ≤ parts.length) (h8 : parts.length ≤ 8) (hsz : ∀ p ∈ parts, p.length ≤ 1048576) (hp : ∀ p ∈ parts, ∀ c ∈ p, inCb c 0 7 = true) (m : Int) :
    Ev (fun k => spec_l27Possible.f k parts o m) (isMv parts.length m && possP parts o m) := by
  have hpw := pow_le8 parts.length h8
  have hsh := shl_eq parts.length h8
  by_cases h : 6 ≤ m ∧ m < 6 * 2 ^ parts.length
  · have := poss_ev parts o hl h1 h8 hsz hp m.toNat (by omega) (by have h2 := h.2; rw [pow_int] at h2; generalize 2 ^ parts.length = N2 at h2 ⊢; omega)
    rw [Int.toNat_of_nonneg (by omega)] at this
    exact this
  · have hmv : isMv parts.length m = false := by
      unfold isMv
      rw [pow_int] at h ⊢
      generalize 2 ^ parts.length = N2 at h ⊢
      rw [Bool.and_eq_false_iff, Bool.and_eq_false_iff, decide_eq_false_iff_not, decide_eq_false_iff_not]
      omega
    rw [hmv, Bool.false_and]
    refine Ev.congr (f := fun k => spec_l27Possible.j0 k o m true parts) (fun k => ?_) (Ev.step (f := fun _ => some false) (fun k => by simp only [spec_l27Possible.j0, if_true]) (Ev.now _))
    unfold spec_l27Possible.f
    rw [if_pos (u64_nn _ h8), hsh, in_eq, Option.bind_some]
    rw [pow_int] at h
    generalize 2 ^ parts.length = N2 at h hpw
    rw [wrap_id (by omega) (by omega), show inR m 6 (((6 * N2 : Nat) : Int) - 1) = false by unfold inR; rw [Bool.and_eq_false_iff, decide_eq_false_iff_not, decide_eq_false_iff_not]; omega]
    rfl
/-- What FollowWay answers on an assembly. -/
def followR (parts : List (List Cb)) (way : List Int) : List Cb × Int := match followF parts way with
  | some o => (o, 0)
  | none => ([], 5)
theorem followW_ev {parts : List (List Cb)} (hz : SzOk parts) (has : asmP parts = true) (way : List Int) (hw : way.length ≤ 1048576) (hm : ∀ m ∈ way, m ≤ 9223372036854775807) : Ev (fun k => spec_FollowWay.f k parts way) (followR parts way) := by
  have ha := asm_of has
  have h1 : ∀ k, spec_IsAssembly.f k parts = some true := fun k => by unfold spec_IsAssembly.f; rw [if_pos ⟨hz.len, hz.each⟩, asm_same]; exact congrArg some has
  obtain ⟨r, hr, hk⟩ : ∃ r, r = followR parts way ∧ Ev (fun k => spec_FollowWay.l0 k way (zerosC parts.length) 0 parts) r := by
    refine ev_inv0 way.length (fun (o : List Cb) j => o.length = parts.length ∧ followF parts (way.take j) = some o) (fun r => r = followR parts way) (fun o i k => spec_FollowWay.l0 k way o i parts) (fun o hi => ?_) (fun o j hj hi => ?_) (zerosC parts.length) ⟨by simp [zerosC], rfl⟩
    · refine ⟨(o, 0), ?_, Ev.step (f := fun _ => some (o, 0)) (fun k => by simp only [spec_FollowWay.l0]; rw [if_neg (by omega)]) (Ev.now _)⟩
      have h2 := hi.2
      rw [List.take_length] at h2
      unfold followR
      rw [h2]
    · have hg : rd way (j : Int) = way[j] := rd_nat way j hj
      have hfn := follow_next parts way j hj
      rw [hi.2, Option.bind_some] at hfn
      have hmm := hm way[j] (List.getElem_mem hj)
      have hpe := poss_any parts o hi.1 (by omega) (by omega) hz.each (fun p hp => (ha.2 p hp).2) way[j]
      cases c : (isMv parts.length way[j] && possP parts o way[j]) with
      | false =>
        refine .inl ⟨([], 5), ?_, Ev.succ ?_⟩
        · have h3 := follow_dead parts way (j + 1) (by rw [hfn]; unfold stepM; rw [c]; rfl)
          unfold followR
          rw [h3]
        · rw [c] at hpe
          simp only [spec_FollowWay.l0, hg, show (j : Int) < (way.length : Int) from by omega, show (0 : Int) ≤ (j : Int) from by omega, if_true]
          exact Ev.bind hpe (Ev.val fun k => rfl)
      | true =>
        refine .inr ⟨movedP o way[j], ⟨by rw [movedP_len]; exact hi.1, by rw [hfn]; unfold stepM; rw [c]; rfl⟩, fun r h2 => Ev.succ ?_⟩
        rw [c] at hpe
        have h6 : 6 ≤ way[j] := by
          have c1 := (Bool.and_eq_true _ _ ▸ c : isMv parts.length way[j] = true ∧ _).1
          unfold isMv at c1
          rw [Bool.and_eq_true, decide_eq_true_eq] at c1
          exact c1.1
        simp only [spec_FollowWay.l0, hg, show (j : Int) < (way.length : Int) from by omega, show (0 : Int) ≤ (j : Int) from by omega, if_true, wrap_succ j (show j < 9223372036854775807 by omega)]
        refine Ev.bind hpe ?_
        simp only [if_true]
        exact Ev.bind (after_ev o way[j] (by omega) h6 hmm) h2
  rw [← hr]
  refine Ev.congr (fun k => ?_) hk
  unfold spec_FollowWay.f
  rw [h1, Option.bind_some, if_pos rfl, if_pos (by omega), if_pos (by omega)]
  rfl
end Go.Proofs.Ytlbckkagjekhnaa.A

namespace Go.Proofs.Ytlbckkagjekhnaa.A
open Go.RowKit Go.Proofs.YtlbckkagjekhnaaW.PrintWords Go.Proofs.YtlbckkagjekhnaaW.PrintLast Go.Proofs.YtlbckkagjekhnaaW.PrintMore
attribute [local go_sem] max2_int min2_int max_two min_two max_three min_three max_four min_four   -- for this text's walks alone
set_option linter.unusedVariables false
set_option linter.unusedSimpArgs false
def laws_markInt64S.l0 : Nat → List Int → Int → Int → Option (Int × List Int)
  | 0, _, _, _ => none
  | k + 1, x0, x1, x5 => if x5 < (x0.length : Int) then (if 0 ≤ x5 then (laws_markInt64S.l0 k (x0.set (x5 : Int).toNat x1) (wrap64 (x1 + 1)) (wrap64 (x5 + 1))) else (none)) else (some (x1, x0))
def laws_markInt64S.f (k : Nat) (l0 : List Int) (a1 : Int) : Option (Int × List Int) := laws_markInt64S.l0 k l0 a1 0
set_option maxHeartbeats 8000000 in
set_option maxRecDepth 100000 in
theorem laws_markInt64S.calls (k : Nat) (P0_ : Nat → Prop) (u9000_ : Value) (l0 : List Int) (a1 : Int) (r1 : Int) (r2 : List Int) (w0 w : World) (hB : Below w0.heap.size w0 w) (ho0 : Kd.R (Kd.int .i64) 2 w w0.heap.size P0_ u9000_ l0) (h : laws_markInt64S.f k l0 a1 = some (r1, r2)) :
    Calls Try.prog 35 #[u9000_, .int .i64 a1] w fun e w' => e = .returned (.int .i64 r1) ∧ Kd.R (Kd.int .i64) 2 w' w0.heap.size (fun k_ => (P0_ k_ ∨ w.heap.size ≤ k_)) u9000_ r2 ∧ Below w0.heap.size w0 w' ∧ Kept w w' (fun k_ => P0_ k_) := by
 have HO0 := A0_ (show Kd.R (Kd.int .i64) 2 w w0.heap.size (fun k_ => (P0_ k_ ∨ w.heap.size ≤ k_)) u9000_ l0 from Kd.R_mono ho0 (fun k_ hk => (.inl hk)))
 have HK := A0_ (Kept.refl w (fun k_ => P0_ k_))
 (have HW0 := A0_ hB.size); (have HB := A0_ hB); clear hB; (have H : (laws_markInt64S.l0 k l0 a1 0) = some (r1, r2) := h); clear h; (have H' := A0_ H); clear H; (go_enter Try.func35, Try.ntmps35); go_wp2
 go_loopg [1, 5] k (fun kq v1 v5 w' => ∃ (x0_1 : List Int) (x1_1 : Int) (x5_1 : Int), v1 = .int .i64 x1_1 ∧ v5 = .int .i64 x5_1 ∧ Aside0 (laws_markInt64S.l0 kq x0_1 x1_1 x5_1 = some (r1, r2)) ∧ Aside0 (kq ≤ k) ∧ Aside0 (Kd.R (Kd.int .i64) 2 w' w0.heap.size (fun k_ => (P0_ k_ ∨ w.heap.size ≤ k_)) u9000_ x0_1) ∧ Aside0 (Kept w w' (fun k_ => P0_ k_)) ∧ Aside0 (Below w0.heap.size w0 w'))
 case atStart => exact ⟨(l0), (a1), (0), (by first | rfl | (simp; done) | (simp [*]; done)), (by first | rfl | (simp; done) | (simp [*]; done)), H', ⟨Nat.le_refl _⟩, ⟨by (with_reducible repeat (first | apply Ra_ | apply Rn_ | apply Rd_)); exact HO0.out⟩, ⟨by repeat (first | (with_reducible first | exact HK.out | apply Kept.alloc | apply Kept.drewN | apply Kept.drew) | exact HK.out)⟩, ⟨by repeat (first | (with_reducible first | exact HB.out | apply ba_ | apply bn_ | apply bd_) | exact HB.out)⟩⟩
 case round =>
  clear H'; (try clear p2); (obtain ⟨x0_1, x1_1, x5_1, rfl, rfl, HA, HK1, HO_0, HK, HB⟩ := hrel)
  cases gk with
  | zero => exact absurd HA.out (by simp [laws_markInt64S.l0])
  | succ k1 =>
   (have H := HA.out); clear HA; (simp only [laws_markInt64S.l0] at H); (by_cases c3 : x5_1 < (x0_1.length : Int))
   ·(rw [if_pos c3] at H); (have c3b0 : decide (x5_1 < (x0_1.length : Int)) = true := decide_eq_true c3); clear c3; (by_cases c4 : 0 ≤ x5_1)
    ·(rw [if_pos c4] at H); (have c4b0 : decide (0 ≤ x5_1) = true := decide_eq_true c4); clear c4; (obtain ⟨y605, hy605⟩ : ∃ y_ : List Int, y_ = (x0_1.set (x5_1 : Int).toNat x1_1) := ⟨_, rfl⟩); (replace H : (laws_markInt64S.l0 k1 y605 (wrap64 (x1_1 + 1)) (wrap64 (x5_1 + 1))) = some (r1, r2) := by first | (rw [hy605]; with_reducible exact H) | (have H2_ := (Option.bind_some _ _).symm.trans H; rw [hy605]; with_reducible exact H2_) | (have H2_ := (Option.bind_some _ _).symm.trans H; with_reducible exact H2_) | with_reducible exact H | (rw [hy605]; exact H) | exact H); (have Ny605 := A0_ hy605); clear hy605; (have H' := A0_ H); clear H; (obtain ⟨Ao6, co6, eo6⟩ := Kd.R_slice HO_0.out); subst eo6; (have p5 : 0 ≤ (x5_1 : Int) := of_decide_eq_true (by first | (with_reducible assumption) | assumption)); (have q5 : (x5_1 : Int) < ((x0_1.length : Int) : Int) := of_decide_eq_true (by first | (with_reducible assumption) | assumption)); (obtain ⟨go5, co5, eo5, gb5, gl5, cl5, HG5⟩ := Kd.R_form HO_0.out (by omega)); ((first | cases eo5 | (injection eo5 with ea_ en_ ec_; (first | subst ea_ | (injection ea_ with ea_; subst ea_)); subst ec_; clear en_))); (have GB5 := A0_ gb5); (have GG5 := A0_ HG5); clear gb5 gl5 HG5; (have HMgo5 := A0_ (show (P0_ go5 ∨ w.heap.size ≤ go5) from (HO_0.out.1 _ rfl))); (obtain ⟨hx5_0, hf5_0⟩ := Kd.R_celln 0 HO_0.out (x5_1 : Int) p5 q5); (replace p5 := eq_true p5); (replace q5 := eq_true q5); (have HP7 := Kd.R_putg HO_0.out (x5_1 : Int) x1_1)
     go_wp2_with (first | ((with_reducible refine gate_store (t := 2) (p := 15) rfl ?_); refine store_event (t := 2) (p := 15) (v := ?vo_w8) (w1 := (wr.setCell ⟨go5, (x5_1 : Int).toNat, none⟩ (.int .i64 x1_1))) ?hg ?ho ?hn ?hr ?_; (case ho => rfl); (case hg => rfl); (case hn => rfl); (case hr => first | (go_simp; done) | (go_simp; rfl)); intro w8 hw; have hg : wr.grownBy w8 (some go5) := (by rw [hw]; exact HP7.2); have hp_ : Kd.R (Kd.int .i64) 2 w8 w0.heap.size (fun k_ => (P0_ k_ ∨ w.heap.size ≤ k_)) (.slice (some ⟨go5, 0, none⟩) x0_1.length co6) y605 := (by rw [hw, Ny605.out]; exact HP7.1); clear HP7; have n0_ := A0_ (hp_); have n1_ := A0_ ((by rw [hw]; exact below_set (HB.out) GB5.out : Below w0.heap.size w0 w8)); have n2_ := A0_ (Kept.of_grown (S := (fun k_ => P0_ k_)) hg (by repeat (first | (with_reducible first | exact HK.out | apply Kept.alloc | apply Kept.drewN | apply Kept.drew) | exact HK.out)) (fun k_ e_ => (HO_0.out.1 k_ e_))); clear HO_0; clear HB; clear HK; have HO_0 := n0_; have HB := n1_; have HK := n2_; clear n0_ n1_ n2_; clear hg hw hp_))
     (go_roundg k1)
     case measure => have := HK1.out; omega
     case rel => exact ⟨(y605), (wrap64 (x1_1 + 1)), (wrap64 (x5_1 + 1)), (by first | rfl | (simp; done) | (simp [*]; done)), (by first | rfl | (simp; done) | (simp [*]; done)), H', ⟨by have := HK1.out; omega⟩, ⟨by (with_reducible repeat (first | apply Ra_ | apply Rn_ | apply Rd_)); exact HO_0.out⟩, ⟨by repeat (first | (with_reducible first | exact HK.out | apply Kept.alloc | apply Kept.drewN | apply Kept.drew) | exact HK.out)⟩, ⟨by repeat (first | (with_reducible first | exact HB.out | apply ba_ | apply bn_ | apply bd_) | exact HB.out)⟩⟩
    ·(rw [if_neg c4] at H); (exact absurd H (by simp))
   ·(rw [if_neg c3] at H); (have c3b0 : decide (x5_1 < (x0_1.length : Int)) = false := decide_eq_false c3); clear c3; (simp only [Option.some.injEq, Prod.mk.injEq] at H); (obtain ⟨rfl, rfl⟩ := H); (obtain ⟨Ao9, co9, eo9⟩ := Kd.R_slice HO_0.out); subst eo9; go_wp2; go_ret; (exact ⟨by first | rfl | (simp [errW_none, errW_some] <;> rfl) | (simp [*, errW_none, errW_some] <;> rfl), by (with_reducible repeat (first | apply Ra_ | apply Rn_ | apply Rd_)); exact HO_0.out, by repeat (first | (with_reducible first | exact HB.out | apply ba_ | apply bn_ | apply bd_) | exact HB.out), by repeat (first | (with_reducible first | exact HK.out | apply Kept.alloc | apply Kept.drewN | apply Kept.drew) | exact HK.out)⟩)
end Go.Proofs.Ytlbckkagjekhnaa.A

namespace Go.Proofs.Ytlbckkagjekhnaa.A
open Go.RowKit Go.Proofs.YtlbckkagjekhnaaW.PrintWords Go.Proofs.YtlbckkagjekhnaaW.PrintLast Go.Proofs.YtlbckkagjekhnaaW.PrintMore
attribute [local go_sem] max2_int min2_int max_two min_two max_three min_three max_four min_four   -- for this text's walks alone
set_option linter.unusedVariables false
set_option linter.unusedSimpArgs false
def laws_heldInt64S.l0 : Nat → List Int → Int → Int → Option (Int)
  | 0, _, _, _ => none
  | k + 1, x0, x1, x5 => if x5 < (x0.length : Int) then (if 0 ≤ x5 then (if (rd x0 x5) = x1 then (laws_heldInt64S.l0 k x0 (wrap64 (x1 + 1)) (wrap64 (x5 + 1))) else (some (-1))) else (none)) else (some x1)
def laws_heldInt64S.f (k : Nat) (l0 : List Int) (a1 : Int) : Option (Int) := laws_heldInt64S.l0 k l0 a1 0
set_option maxHeartbeats 8000000 in
set_option maxRecDepth 100000 in
theorem laws_heldInt64S.calls (k : Nat) (A0 : Option Addr) (c0 : Nat) (l0 : List Int) (a1 : Int) (r : Int) (w : World) (hr0 : Kd.C (Kd.int .i64) w A0 l0.length l0) (hc0 : l0.length ≤ c0) (h : laws_heldInt64S.f k l0 a1 = some r) :
    Calls Try.prog 36 #[.slice A0 l0.length c0, .int .i64 a1] w fun e w' => e = .returned (.int .i64 r) ∧ Drawn0 w w' := by
 (have HR0 := A0_ hr0); (have HC0 := A0_ hc0); clear hr0 hc0; (have H : (laws_heldInt64S.l0 k l0 a1 0) = some r := h); clear h; (have H' := A0_ H); clear H; (go_enter Try.func36, Try.ntmps36); go_wp2
 go_loopg [1, 5] k (fun kq v1 v5 w' => ∃ (x1_1 : Int) (x5_1 : Int), v1 = .int .i64 x1_1 ∧ v5 = .int .i64 x5_1 ∧ Aside0 (laws_heldInt64S.l0 kq l0 x1_1 x5_1 = some r) ∧ Aside0 (kq ≤ k) ∧ Drawn0 w w')
 case atStart => exact ⟨(a1), (0), (by first | rfl | (simp; done) | (simp [*]; done)), (by first | rfl | (simp; done) | (simp [*]; done)), H', ⟨Nat.le_refl _⟩, by repeat (first | exact Drawn0.refl _ | apply Drawn0.step)⟩
 case round =>
  clear H'; (try clear p2); (obtain ⟨x1_1, x5_1, rfl, rfl, HA, HK1, ⟨m1, rfl⟩⟩ := hrel)
  cases gk with
  | zero => exact absurd HA.out (by simp [laws_heldInt64S.l0])
  | succ k1 =>
   (have H := HA.out); clear HA; (simp only [laws_heldInt64S.l0] at H); (by_cases c3 : x5_1 < (l0.length : Int))
   ·(rw [if_pos c3] at H); (have c3b0 : decide (x5_1 < (l0.length : Int)) = true := decide_eq_true c3); clear c3; (by_cases c4 : 0 ≤ x5_1)
    ·(rw [if_pos c4] at H); (have c4b0 : decide (0 ≤ x5_1) = true := decide_eq_true c4); clear c4; (by_cases c5 : (rd l0 x5_1) = x1_1)
     ·(rw [if_pos c5] at H); (have c5b0 : ((rd l0 x5_1) == x1_1) = true := beq_iff_eq.mpr c5); (have c5b1 : ((rd l0 x5_1) != x1_1) = false := bne_eq_false_iff_eq.mpr c5); clear c5; (have H' := A0_ H); clear H; (have p606 : 0 ≤ (x5_1 : Int) := of_decide_eq_true (by first | (with_reducible assumption) | assumption)); (have q606 : x5_1 < (l0.length : Int) := of_decide_eq_true (by first | (with_reducible assumption) | assumption)); (obtain ⟨ad606, e606, hx606_0⟩ := Kd.at_int HR0.out x5_1 p606 q606); (cases e606); (replace p606 := eq_true p606); (replace q606 := eq_true q606); go_wp2; (go_roundg k1)
      case measure => have := HK1.out; omega
      case rel => exact ⟨(wrap64 (x1_1 + 1)), (wrap64 (x5_1 + 1)), (by first | rfl | (simp; done) | (simp [*]; done)), (by first | rfl | (simp; done) | (simp [*]; done)), H', ⟨by have := HK1.out; omega⟩, by repeat (first | exact Drawn0.refl _ | apply Drawn0.step)⟩
     ·(rw [if_neg c5] at H); (have c5b0 : ((rd l0 x5_1) == x1_1) = false := beq_eq_false_iff_ne.mpr c5); (have c5b1 : ((rd l0 x5_1) != x1_1) = true := bne_iff_ne.mpr c5); (obtain rfl := Option.some.inj H); (have p606 : 0 ≤ (x5_1 : Int) := of_decide_eq_true (by first | (with_reducible assumption) | assumption)); (have q606 : x5_1 < (l0.length : Int) := of_decide_eq_true (by first | (with_reducible assumption) | assumption)); (obtain ⟨ad606, e606, hx606_0⟩ := Kd.at_int HR0.out x5_1 p606 q606); (cases e606); (replace p606 := eq_true p606); (replace q606 := eq_true q606); go_wp2; go_ret; (exact ⟨by first | rfl | (simp; done) | (simp [*]; done), by repeat (first | exact Drawn0.refl _ | apply Drawn0.step)⟩)
    ·(rw [if_neg c4] at H); (exact absurd H (by simp))
   ·(rw [if_neg c3] at H); (have c3b0 : decide (x5_1 < (l0.length : Int)) = false := decide_eq_false c3); clear c3; (obtain rfl := Option.some.inj H); go_wp2; go_ret; (exact ⟨by first | rfl | (simp; done) | (simp [*]; done), by repeat (first | exact Drawn0.refl _ | apply Drawn0.step)⟩)
end Go.Proofs.Ytlbckkagjekhnaa.A

namespace Go.Proofs.Ytlbckkagjekhnaa.A
open Go.RowKit Go.Proofs.YtlbckkagjekhnaaW.PrintWords Go.Proofs.YtlbckkagjekhnaaW.PrintLast Go.Proofs.YtlbckkagjekhnaaW.PrintMore
attribute [local go_sem] max2_int min2_int max_two min_two max_three min_three max_four min_four   -- for this text's walks alone
set_option linter.unusedVariables false
set_option linter.unusedSimpArgs false
def laws_eqInt64S.l0 : Nat → List Int → List Int → Int → Option (Bool)
  | 0, _, _, _ => none
  | k + 1, x0, x1, x5 => if x5 < (x0.length : Int) then (if 0 ≤ x5 then (if x5 < (x1.length : Int) then (if (rd x0 x5) = (rd x1 x5) then (laws_eqInt64S.l0 k x0 x1 (wrap64 (x5 + 1))) else (some false)) else (none)) else (none)) else (some true)
def laws_eqInt64S.f (k : Nat) (l0 : List Int) (l1 : List Int) : Option (Bool) := if (l0.length : Int) = (l1.length : Int) then (laws_eqInt64S.l0 k l0 l1 0) else (some false)
set_option maxHeartbeats 8000000 in
set_option maxRecDepth 100000 in
theorem laws_eqInt64S.calls (k : Nat) (A0 : Option Addr) (c0 : Nat) (l0 : List Int) (A1 : Option Addr) (c1 : Nat) (l1 : List Int) (r : Bool) (w : World) (hr0 : Kd.C (Kd.int .i64) w A0 l0.length l0) (hc0 : l0.length ≤ c0) (hr1 : Kd.C (Kd.int .i64) w A1 l1.length l1) (hc1 : l1.length ≤ c1) (h : laws_eqInt64S.f k l0 l1 = some r) :
    Calls Try.prog 34 #[.slice A0 l0.length c0, .slice A1 l1.length c1] w fun e w' => e = .returned (.bool r) ∧ Drawn0 w w' := by
 (have HR0 := A0_ hr0); (have HC0 := A0_ hc0); clear hr0 hc0; (have HR1 := A0_ hr1); (have HC1 := A0_ hc1); clear hr1 hc1; (have H : (if (l0.length : Int) = (l1.length : Int) then (laws_eqInt64S.l0 k l0 l1 0) else (some false)) = some r := h); clear h; (by_cases c3 : (l0.length : Int) = (l1.length : Int))
 ·(rw [if_pos c3] at H); (have c3b0 : ((l0.length : Int) == (l1.length : Int)) = true := beq_iff_eq.mpr c3); (have c3b1 : ((l0.length : Int) != (l1.length : Int)) = false := bne_eq_false_iff_eq.mpr c3); (have c3b2 : (l0.length == l1.length) = true := by first | simpa using c3 | (simp at c3 ⊢; omega)); clear c3; (have H' := A0_ H); clear H; (go_enter Try.func34, Try.ntmps34); go_wp2; (repeat (go_quiet (fail); try go_wp2))
  go_loopg [5] k (fun kq v5 w' => ∃ (x5_1 : Int), v5 = .int .i64 x5_1 ∧ Aside0 (laws_eqInt64S.l0 kq l0 l1 x5_1 = some r) ∧ Aside0 (kq ≤ k) ∧ Drawn0 w w')
  case atStart => exact ⟨(0), (by first | rfl | (simp; done) | (simp [*]; done)), H', ⟨Nat.le_refl _⟩, by repeat (first | exact Drawn0.refl _ | apply Drawn0.step)⟩
  case round =>
   clear H'; (try clear c1); (try clear p2); (try clear c3); (try clear c3b0); (try clear c3b1); (try clear c3b2); (obtain ⟨x5_1, rfl, HA, HK1, ⟨m1, rfl⟩⟩ := hrel)
   cases gk with
   | zero => exact absurd HA.out (by simp [laws_eqInt64S.l0])
   | succ k1 =>
    (have H := HA.out); clear HA; (simp only [laws_eqInt64S.l0] at H); (by_cases c4 : x5_1 < (l0.length : Int))
    ·(rw [if_pos c4] at H); (have c4b0 : decide (x5_1 < (l0.length : Int)) = true := decide_eq_true c4); clear c4; (by_cases c5 : 0 ≤ x5_1)
     ·(rw [if_pos c5] at H); (have c5b0 : decide (0 ≤ x5_1) = true := decide_eq_true c5); clear c5; (by_cases c6 : x5_1 < (l1.length : Int))
      ·(rw [if_pos c6] at H); (have c6b0 : decide (x5_1 < (l1.length : Int)) = true := decide_eq_true c6); clear c6; (by_cases c7 : (rd l0 x5_1) = (rd l1 x5_1))
       ·(rw [if_pos c7] at H); (have c7b0 : ((rd l0 x5_1) == (rd l1 x5_1)) = true := beq_iff_eq.mpr c7); (have c7b1 : ((rd l0 x5_1) != (rd l1 x5_1)) = false := bne_eq_false_iff_eq.mpr c7); clear c7; (have H' := A0_ H); clear H; (have p579 : 0 ≤ (x5_1 : Int) := of_decide_eq_true (by first | (with_reducible assumption) | assumption)); (have q579 : x5_1 < (l0.length : Int) := of_decide_eq_true (by first | (with_reducible assumption) | assumption)); (obtain ⟨ad579, e579, hx579_0⟩ := Kd.at_int HR0.out x5_1 p579 q579); (cases e579); (replace p579 := eq_true p579); (replace q579 := eq_true q579); (have p580 : 0 ≤ (x5_1 : Int) := of_decide_eq_true (by first | (with_reducible assumption) | assumption)); (have q580 : x5_1 < (l1.length : Int) := of_decide_eq_true (by first | (with_reducible assumption) | assumption)); (obtain ⟨ad580, e580, hx580_0⟩ := Kd.at_int HR1.out x5_1 p580 q580); (cases e580); (replace p580 := eq_true p580); (replace q580 := eq_true q580); go_wp2; (repeat (go_quiet (fail); try go_wp2)); (go_roundg k1)
        case measure => have := HK1.out; omega
        case rel => exact ⟨(wrap64 (x5_1 + 1)), (by first | rfl | (simp; done) | (simp [*]; done)), H', ⟨by have := HK1.out; omega⟩, by repeat (first | exact Drawn0.refl _ | apply Drawn0.step)⟩
       ·(rw [if_neg c7] at H); (have c7b0 : ((rd l0 x5_1) == (rd l1 x5_1)) = false := beq_eq_false_iff_ne.mpr c7); (have c7b1 : ((rd l0 x5_1) != (rd l1 x5_1)) = true := bne_iff_ne.mpr c7); (obtain rfl := Option.some.inj H); (have p579 : 0 ≤ (x5_1 : Int) := of_decide_eq_true (by first | (with_reducible assumption) | assumption)); (have q579 : x5_1 < (l0.length : Int) := of_decide_eq_true (by first | (with_reducible assumption) | assumption)); (obtain ⟨ad579, e579, hx579_0⟩ := Kd.at_int HR0.out x5_1 p579 q579); (cases e579); (replace p579 := eq_true p579); (replace q579 := eq_true q579); (have p580 : 0 ≤ (x5_1 : Int) := of_decide_eq_true (by first | (with_reducible assumption) | assumption)); (have q580 : x5_1 < (l1.length : Int) := of_decide_eq_true (by first | (with_reducible assumption) | assumption)); (obtain ⟨ad580, e580, hx580_0⟩ := Kd.at_int HR1.out x5_1 p580 q580); (cases e580); (replace p580 := eq_true p580); (replace q580 := eq_true q580); go_wp2; (repeat (go_quiet (fail); try go_wp2)); go_ret; (exact ⟨by first | rfl | (simp; done) | (simp [*]; done), by repeat (first | exact Drawn0.refl _ | apply Drawn0.step)⟩)
      ·(rw [if_neg c6] at H); (exact absurd H (by simp))
     ·(rw [if_neg c5] at H); (exact absurd H (by simp))
    ·(rw [if_neg c4] at H); (have c4b0 : decide (x5_1 < (l0.length : Int)) = false := decide_eq_false c4); clear c4; (obtain rfl := Option.some.inj H); go_wp2; (repeat (go_quiet (fail); try go_wp2)); go_ret; (exact ⟨by first | rfl | (simp; done) | (simp [*]; done), by repeat (first | exact Drawn0.refl _ | apply Drawn0.step)⟩)
 ·(rw [if_neg c3] at H); (have c3b0 : ((l0.length : Int) == (l1.length : Int)) = false := beq_eq_false_iff_ne.mpr c3); (have c3b1 : ((l0.length : Int) != (l1.length : Int)) = true := bne_iff_ne.mpr c3); (have c3b2 : (l0.length == l1.length) = false := by first | simpa using c3 | (simp at c3 ⊢; omega)); (obtain rfl := Option.some.inj H); (go_enter Try.func34, Try.ntmps34); go_wp2; (repeat (go_quiet (fail); try go_wp2)); go_ret; (exact ⟨by first | rfl | (simp; done) | (simp [*]; done), by repeat (first | exact Drawn0.refl _ | apply Drawn0.step)⟩)
end Go.Proofs.Ytlbckkagjekhnaa.A

namespace Go.Proofs.Ytlbckkagjekhnaa.A
open Go.RowKit Go.Proofs.YtlbckkagjekhnaaW.PrintWords Go.Proofs.YtlbckkagjekhnaaW.PrintLast Go.Proofs.YtlbckkagjekhnaaW.PrintMore
attribute [local go_sem] max2_int min2_int max_two min_two max_three min_three max_four min_four   -- for this text's walks alone
set_option linter.unusedVariables false
set_option linter.unusedSimpArgs false
def laws_markCubeS.l0 : Nat → List (S69) → Int → Int → Option (Int × (List (S69)))
  | 0, _, _, _ => none
  | k + 1, x0, x1, x5 => if x5 < (x0.length : Int) then (if 0 ≤ x5 then ((some (x0.set (x5 : Int).toNat (⟨x1, (rd_T69 x0 x5).f1, (rd_T69 x0 x5).f2⟩ : S69) : List (S69))).bind fun y332 => ((some (y332.set (x5 : Int).toNat (⟨(rd_T69 y332 x5).f0, wrap64 (x1 + 1), (rd_T69 y332 x5).f2⟩ : S69) : List (S69))).bind fun y333 => (laws_markCubeS.l0 k (y333.set (x5 : Int).toNat (⟨(rd_T69 y333 x5).f0, (rd_T69 y333 x5).f1, wrap64 ((wrap64 (x1 + 1)) + 1)⟩ : S69)) (wrap64 ((wrap64 ((wrap64 (x1 + 1)) + 1)) + 1)) (wrap64 (x5 + 1))))) else (none)) else (some (x1, x0))
def laws_markCubeS.f (k : Nat) (l0 : List (S69)) (a1 : Int) : Option (Int × (List (S69))) := laws_markCubeS.l0 k l0 a1 0
set_option maxHeartbeats 8000000 in
set_option maxRecDepth 100000 in
theorem laws_markCubeS.calls (k : Nat) (P0_ : Nat → Prop) (u9000_ : Value) (l0 : List (S69)) (a1 : Int) (r1 : Int) (r2 : List (S69)) (w0 w : World) (hB : Below w0.heap.size w0 w) (ho0 : Kd.R k69 69 w w0.heap.size P0_ u9000_ l0) (h : laws_markCubeS.f k l0 a1 = some (r1, r2)) :
    Calls Try.prog 20 #[u9000_, .int .i64 a1] w fun e w' => e = .returned (.int .i64 r1) ∧ Kd.R k69 69 w' w0.heap.size (fun k_ => (P0_ k_ ∨ w.heap.size ≤ k_)) u9000_ r2 ∧ Below w0.heap.size w0 w' ∧ Kept w w' (fun k_ => P0_ k_) := by
 have HO0 := A0_ (show Kd.R k69 69 w w0.heap.size (fun k_ => (P0_ k_ ∨ w.heap.size ≤ k_)) u9000_ l0 from Kd.R_mono ho0 (fun k_ hk => (.inl hk)))
 have HK := A0_ (Kept.refl w (fun k_ => P0_ k_))
 (have HW0 := A0_ hB.size); (have HB := A0_ hB); clear hB; (have H : (laws_markCubeS.l0 k l0 a1 0) = some (r1, r2) := h); clear h; (have H' := A0_ H); clear H; (go_enter Try.func20, Try.ntmps20); go_wp2
 go_loopg [1, 5] k (fun kq v1 v5 w' => ∃ (x0_1 : List (S69)) (x1_1 : Int) (x5_1 : Int), v1 = .int .i64 x1_1 ∧ v5 = .int .i64 x5_1 ∧ Aside0 (laws_markCubeS.l0 kq x0_1 x1_1 x5_1 = some (r1, r2)) ∧ Aside0 (kq ≤ k) ∧ Aside0 (Kd.R k69 69 w' w0.heap.size (fun k_ => (P0_ k_ ∨ w.heap.size ≤ k_)) u9000_ x0_1) ∧ Aside0 (Kept w w' (fun k_ => P0_ k_)) ∧ Aside0 (Below w0.heap.size w0 w'))
 case atStart => exact ⟨(l0), (a1), (0), (by first | rfl | (simp; done) | (simp [*]; done)), (by first | rfl | (simp; done) | (simp [*]; done)), H', ⟨Nat.le_refl _⟩, ⟨by (with_reducible repeat (first | apply Ra_ | apply Rn_ | apply Rd_)); exact HO0.out⟩, ⟨by repeat (first | (with_reducible first | exact HK.out | apply Kept.alloc | apply Kept.drewN | apply Kept.drew) | exact HK.out)⟩, ⟨by repeat (first | (with_reducible first | exact HB.out | apply ba_ | apply bn_ | apply bd_) | exact HB.out)⟩⟩
 case round =>
  clear H'; (try clear c2); (try clear p2); (obtain ⟨x0_1, x1_1, x5_1, rfl, rfl, HA, HK1, HO_0, HK, HB⟩ := hrel)
  cases gk with
  | zero => exact absurd HA.out (by simp [laws_markCubeS.l0])
  | succ k1 =>
   (have H := HA.out); clear HA; (simp only [laws_markCubeS.l0] at H); (by_cases c3 : x5_1 < (x0_1.length : Int))
   ·(rw [if_pos c3] at H); (have c3b0 : decide (x5_1 < (x0_1.length : Int)) = true := decide_eq_true c3); clear c3; (by_cases c4 : 0 ≤ x5_1)
    ·(rw [if_pos c4] at H); (have c4b0 : decide (0 ≤ x5_1) = true := decide_eq_true c4); clear c4; (obtain ⟨y332, hy332⟩ : ∃ y_ : List (S69), y_ = (x0_1.set (x5_1 : Int).toNat (⟨x1_1, (rd_T69 x0_1 x5_1).f1, (rd_T69 x0_1 x5_1).f2⟩ : S69)) := ⟨_, rfl⟩)
     replace H : ((some (y332.set (x5_1 : Int).toNat (⟨(rd_T69 y332 x5_1).f0, wrap64 (x1_1 + 1), (rd_T69 y332 x5_1).f2⟩ : S69) : List (S69))).bind fun y333 => (laws_markCubeS.l0 k1 (y333.set (x5_1 : Int).toNat (⟨(rd_T69 y333 x5_1).f0, (rd_T69 y333 x5_1).f1, wrap64 ((wrap64 (x1_1 + 1)) + 1)⟩ : S69)) (wrap64 ((wrap64 ((wrap64 (x1_1 + 1)) + 1)) + 1)) (wrap64 (x5_1 + 1)))) = some (r1, r2) := by first | (rw [hy332]; with_reducible exact H) | (have H2_ := (Option.bind_some _ _).symm.trans H; rw [hy332]; with_reducible exact H2_) | (have H2_ := (Option.bind_some _ _).symm.trans H; with_reducible exact H2_) | with_reducible exact H | (rw [hy332]; exact H) | exact H
     (have Ny332 := A0_ hy332); clear hy332; (obtain ⟨y333, hy333⟩ : ∃ y_ : List (S69), y_ = (y332.set (x5_1 : Int).toNat (⟨(rd_T69 y332 x5_1).f0, wrap64 (x1_1 + 1), (rd_T69 y332 x5_1).f2⟩ : S69)) := ⟨_, rfl⟩); (replace H : (laws_markCubeS.l0 k1 (y333.set (x5_1 : Int).toNat (⟨(rd_T69 y333 x5_1).f0, (rd_T69 y333 x5_1).f1, wrap64 ((wrap64 (x1_1 + 1)) + 1)⟩ : S69)) (wrap64 ((wrap64 ((wrap64 (x1_1 + 1)) + 1)) + 1)) (wrap64 (x5_1 + 1))) = some (r1, r2) := by first | (rw [hy333]; with_reducible exact H) | (have H2_ := (Option.bind_some _ _).symm.trans H; rw [hy333]; with_reducible exact H2_) | (have H2_ := (Option.bind_some _ _).symm.trans H; with_reducible exact H2_) | with_reducible exact H | (rw [hy333]; exact H) | exact H); (have Ny333 := A0_ hy333); clear hy333; (obtain ⟨y334, hy334⟩ : ∃ y_ : List (S69), y_ = (y333.set (x5_1 : Int).toNat (⟨(rd_T69 y333 x5_1).f0, (rd_T69 y333 x5_1).f1, wrap64 ((wrap64 (x1_1 + 1)) + 1)⟩ : S69)) := ⟨_, rfl⟩); (replace H : (laws_markCubeS.l0 k1 y334 (wrap64 ((wrap64 ((wrap64 (x1_1 + 1)) + 1)) + 1)) (wrap64 (x5_1 + 1))) = some (r1, r2) := by first | (rw [hy334]; with_reducible exact H) | (have H2_ := (Option.bind_some _ _).symm.trans H; rw [hy334]; with_reducible exact H2_) | (have H2_ := (Option.bind_some _ _).symm.trans H; with_reducible exact H2_) | with_reducible exact H | (rw [hy334]; exact H) | exact H); (have Ny334 := A0_ hy334); clear hy334; (have H' := A0_ H); clear H; (obtain ⟨Ao8, co8, eo8⟩ := Kd.R_slice HO_0.out); subst eo8; (have p5 : 0 ≤ (x5_1 : Int) := of_decide_eq_true (by first | (with_reducible assumption) | assumption)); (have q5 : (x5_1 : Int) < ((x0_1.length : Int) : Int) := of_decide_eq_true (by first | (with_reducible assumption) | assumption)); (obtain ⟨go5, co5, eo5, gb5, gl5, cl5, HG5⟩ := Kd.R_form HO_0.out (by omega)); ((first | cases eo5 | (injection eo5 with ea_ en_ ec_; (first | subst ea_ | (injection ea_ with ea_; subst ea_)); subst ec_; clear en_))); (have GB5 := A0_ gb5); (have GG5 := A0_ HG5); clear gb5 gl5 HG5; (have HMgo5 := A0_ (show (P0_ go5 ∨ w.heap.size ≤ go5) from (HO_0.out.1 _ rfl))); (obtain ⟨ce5, hcl5, hM5, hcc5, hfr5⟩ := Kd.R_elem HO_0.out z69 (x5_1 : Int) p5 q5); (obtain rfl := k69_openM hM5); (have hx5_0 : wr.cell? ⟨go5, (x5_1 : Int).toNat * 3, none⟩ = some (.int .i64 ((rd_T69 x0_1 x5_1).f0)) := hcc5 0 _ rfl); (have hx5_1 : wr.cell? ⟨go5, (x5_1 : Int).toNat * 3 + 1, none⟩ = some (.int .i64 ((rd_T69 x0_1 x5_1).f1)) := hcc5 1 _ rfl); (have hx5_2 : wr.cell? ⟨go5, (x5_1 : Int).toNat * 3 + 2, none⟩ = some (.int .i64 ((rd_T69 x0_1 x5_1).f2)) := hcc5 2 _ rfl); (have hf5_0 : wr.frozen? ⟨go5, (x5_1 : Int).toNat * 3, none⟩ = false := hfr5 0); (have hf5_1 : wr.frozen? ⟨go5, (x5_1 : Int).toNat * 3 + 1, none⟩ = false := hfr5 1); (have hf5_2 : wr.frozen? ⟨go5, (x5_1 : Int).toNat * 3 + 2, none⟩ = false := hfr5 2); clear hcl5 hcc5 hfr5 hM5; (replace p5 := eq_true p5); (replace q5 := eq_true q5)
     have HX9 := A0_ (show Kd.R k69 69 wr w0.heap.size (fun k_ => (P0_ k_ ∨ w.heap.size ≤ k_)) (.slice (some ⟨go5, 0, none⟩) x0_1.length co8) x0_1 from (by (with_reducible repeat (first | apply Ra_ | apply Rn_ | apply Rd_)); exact HO_0.out))
     (obtain ⟨ce9, hcl9, hM9, hcc9, hfr9⟩ := Kd.R_elem HX9.out z69 (x5_1 : Int) (of_decide_eq_true (by first | (with_reducible assumption) | assumption)) (by have h_ : (x5_1 : Int) < ((x0_1.length : Int) : Int) := of_decide_eq_true (by first | (with_reducible assumption) | assumption); first | exact h_ | (have e_ := (Kd.R_reads' HO_0.out).1; omega) | simpa using h_)); (obtain rfl := k69_openM hM9)
     have HP9 := Kd.R_seg HX9.out (x5_1 : Int) (of_decide_eq_true (by first | (with_reducible assumption) | assumption)) (by have h_ : (x5_1 : Int) < ((x0_1.length : Int) : Int) := of_decide_eq_true (by first | (with_reducible assumption) | assumption); first | exact h_ | (have e_ := (Kd.R_reads' HO_0.out).1; omega) | simpa using h_) (seg := [.int .i64 x1_1]) (j := 0) hcl9 hcc9 (show 1 ≤ 3 from by decide) (x' := (⟨x1_1, (rd_T69 x0_1 x5_1).f1, (rd_T69 x0_1 x5_1).f2⟩ : S69)) (k69_mkM _ _ _ (⟨x1_1, (rd_T69 x0_1 x5_1).f1, (rd_T69 x0_1 x5_1).f2⟩ : S69) ) (fun _ hk => hk)
     (have hx9_0 := hcc9 0 _ rfl); ((try simp only [show (k69).sz = 3 from rfl, Nat.mul_one, Nat.add_zero] at hx9_0)); (have hf9_0 := hfr9 0); ((try simp only [show (k69).sz = 3 from rfl, Nat.mul_one, Nat.add_zero] at hf9_0)); clear hcl9 hcc9 hfr9 hM9
     go_wp2_with (first | ((with_reducible refine gate_store (t := 2) (p := 16) rfl ?_); refine store_event (t := 2) (p := 16) (v := ?vo_w10) (w1 := (wr.setCell ⟨go5, (x5_1 : Int).toNat * 3, none⟩ (.int .i64 x1_1))) ?hg ?ho ?hn ?hr ?_; (case ho => rfl); (case hg => rfl); (case hn => rfl); (case hr => first | (go_simp; done) | (go_simp; rfl)); intro w10 hw; have hg : wr.grownBy w10 (some go5) := (by rw [hw]; exact HP9.2); have hp_ : Kd.R k69 69 w10 w0.heap.size (fun k_ => (P0_ k_ ∨ w.heap.size ≤ k_)) (.slice (some ⟨go5, 0, none⟩) x0_1.length co8) y332 := (by rw [hw, Ny332.out]; exact HP9.1); clear HP9; have n0_ := A0_ (hp_); have n1_ := A0_ ((by rw [hw]; exact below_set (HB.out) GB5.out : Below w0.heap.size w0 w10)); have n2_ := A0_ (Kept.of_grown (S := (fun k_ => P0_ k_)) hg (by repeat (first | (with_reducible first | exact HK.out | apply Kept.alloc | apply Kept.drewN | apply Kept.drew) | exact HK.out)) (fun k_ e_ => (HO_0.out.1 k_ e_))); clear HO_0; clear HB; clear HK; have HO_0 := n0_; have HB := n1_; have HK := n2_; clear n0_ n1_ n2_; clear hg hw hp_; have p6 : 0 ≤ (x5_1 : Int) := of_decide_eq_true (by first | (with_reducible assumption) | assumption); have q6 : (x5_1 : Int) < ((x0_1.length : Int) : Int) := of_decide_eq_true (by first | (with_reducible assumption) | assumption); obtain ⟨ce6, hcl6, hM6, hcc6, hfr6⟩ := Kd.R_elem HO_0.out z69 (x5_1 : Int) p6 q6; obtain rfl := k69_openM hM6; have hx6_0 : w10.cell? ⟨go5, (x5_1 : Int).toNat * 3, none⟩ = some (.int .i64 ((rd_T69 y332 x5_1).f0)) := hcc6 0 _ rfl; have hx6_1 : w10.cell? ⟨go5, (x5_1 : Int).toNat * 3 + 1, none⟩ = some (.int .i64 ((rd_T69 y332 x5_1).f1)) := hcc6 1 _ rfl; have hx6_2 : w10.cell? ⟨go5, (x5_1 : Int).toNat * 3 + 2, none⟩ = some (.int .i64 ((rd_T69 y332 x5_1).f2)) := hcc6 2 _ rfl; have hf6_0 : w10.frozen? ⟨go5, (x5_1 : Int).toNat * 3, none⟩ = false := hfr6 0; have hf6_1 : w10.frozen? ⟨go5, (x5_1 : Int).toNat * 3 + 1, none⟩ = false := hfr6 1; have hf6_2 : w10.frozen? ⟨go5, (x5_1 : Int).toNat * 3 + 2, none⟩ = false := hfr6 2; clear hcl6 hcc6 hfr6 hM6; replace p6 := eq_true p6; replace q6 := eq_true q6; have HX11 := A0_ (show Kd.R k69 69 w10 w0.heap.size (fun k_ => (P0_ k_ ∨ w.heap.size ≤ k_)) (.slice (some ⟨go5, 0, none⟩) x0_1.length co8) y332 from (by (with_reducible repeat (first | apply Ra_ | apply Rn_ | apply Rd_)); exact HO_0.out)); obtain ⟨ce11, hcl11, hM11, hcc11, hfr11⟩ := Kd.R_elem HX11.out z69 (x5_1 : Int) (of_decide_eq_true (by first | (with_reducible assumption) | assumption)) (by have h_ : (x5_1 : Int) < ((x0_1.length : Int) : Int) := of_decide_eq_true (by first | (with_reducible assumption) | assumption); first | exact h_ | (have e_ := (Kd.R_reads' HO_0.out).1; omega) | simpa using h_); obtain rfl := k69_openM hM11; have HP11 := Kd.R_seg HX11.out (x5_1 : Int) (of_decide_eq_true (by first | (with_reducible assumption) | assumption)) (by have h_ : (x5_1 : Int) < ((x0_1.length : Int) : Int) := of_decide_eq_true (by first | (with_reducible assumption) | assumption); first | exact h_ | (have e_ := (Kd.R_reads' HO_0.out).1; omega) | simpa using h_) (seg := [.int .i64 (wrap64 (x1_1 + 1))]) (j := 1) hcl11 hcc11 (show 2 ≤ 3 from by decide) (x' := (⟨(rd_T69 y332 x5_1).f0, wrap64 (x1_1 + 1), (rd_T69 y332 x5_1).f2⟩ : S69)) (k69_mkM _ _ _ (⟨(rd_T69 y332 x5_1).f0, wrap64 (x1_1 + 1), (rd_T69 y332 x5_1).f2⟩ : S69) ) (fun _ hk => hk); have hx11_1 := hcc11 1 _ rfl; (try simp only [show (k69).sz = 3 from rfl, Nat.mul_one, Nat.add_zero] at hx11_1); have hf11_1 := hfr11 1; (try simp only [show (k69).sz = 3 from rfl, Nat.mul_one, Nat.add_zero] at hf11_1); clear hcl11 hcc11 hfr11 hM11) | ((with_reducible refine gate_store (t := 2) (p := 23) rfl ?_); refine store_event (t := 2) (p := 23) (v := ?vo_w12) (w1 := (w10.setCell ⟨go5, (x5_1 : Int).toNat * 3 + 1, none⟩ (.int .i64 (wrap64 (x1_1 + 1))))) ?hg ?ho ?hn ?hr ?_; (case ho => rfl); (case hg => rfl); (case hn => rfl); (case hr => first | (go_simp; done) | (go_simp; rfl)); intro w12 hw; have hg : w10.grownBy w12 (some go5) := (by rw [hw]; exact HP11.2); have hp_ : Kd.R k69 69 w12 w0.heap.size (fun k_ => (P0_ k_ ∨ w.heap.size ≤ k_)) (.slice (some ⟨go5, 0, none⟩) x0_1.length co8) y333 := (by rw [hw, Ny333.out]; exact HP11.1); clear HP11; have n0_ := A0_ (hp_); have n1_ := A0_ ((by rw [hw]; exact below_set (HB.out) GB5.out : Below w0.heap.size w0 w12)); have n2_ := A0_ (Kept.of_grown (S := (fun k_ => P0_ k_)) hg (by repeat (first | (with_reducible first | exact HK.out | apply Kept.alloc | apply Kept.drewN | apply Kept.drew) | exact HK.out)) (fun k_ e_ => (HO_0.out.1 k_ e_))); clear HO_0; clear HB; clear HK; have HO_0 := n0_; have HB := n1_; have HK := n2_; clear n0_ n1_ n2_; clear hg hw hp_; have p7 : 0 ≤ (x5_1 : Int) := of_decide_eq_true (by first | (with_reducible assumption) | assumption); have q7 : (x5_1 : Int) < ((x0_1.length : Int) : Int) := of_decide_eq_true (by first | (with_reducible assumption) | assumption); obtain ⟨ce7, hcl7, hM7, hcc7, hfr7⟩ := Kd.R_elem HO_0.out z69 (x5_1 : Int) p7 q7; obtain rfl := k69_openM hM7; have hx7_0 : w12.cell? ⟨go5, (x5_1 : Int).toNat * 3, none⟩ = some (.int .i64 ((rd_T69 y333 x5_1).f0)) := hcc7 0 _ rfl; have hx7_1 : w12.cell? ⟨go5, (x5_1 : Int).toNat * 3 + 1, none⟩ = some (.int .i64 ((rd_T69 y333 x5_1).f1)) := hcc7 1 _ rfl; have hx7_2 : w12.cell? ⟨go5, (x5_1 : Int).toNat * 3 + 2, none⟩ = some (.int .i64 ((rd_T69 y333 x5_1).f2)) := hcc7 2 _ rfl; have hf7_0 : w12.frozen? ⟨go5, (x5_1 : Int).toNat * 3, none⟩ = false := hfr7 0; have hf7_1 : w12.frozen? ⟨go5, (x5_1 : Int).toNat * 3 + 1, none⟩ = false := hfr7 1; have hf7_2 : w12.frozen? ⟨go5, (x5_1 : Int).toNat * 3 + 2, none⟩ = false := hfr7 2; clear hcl7 hcc7 hfr7 hM7; replace p7 := eq_true p7; replace q7 := eq_true q7; have HX13 := A0_ (show Kd.R k69 69 w12 w0.heap.size (fun k_ => (P0_ k_ ∨ w.heap.size ≤ k_)) (.slice (some ⟨go5, 0, none⟩) x0_1.length co8) y333 from (by (with_reducible repeat (first | apply Ra_ | apply Rn_ | apply Rd_)); exact HO_0.out)); obtain ⟨ce13, hcl13, hM13, hcc13, hfr13⟩ := Kd.R_elem HX13.out z69 (x5_1 : Int) (of_decide_eq_true (by first | (with_reducible assumption) | assumption)) (by have h_ : (x5_1 : Int) < ((x0_1.length : Int) : Int) := of_decide_eq_true (by first | (with_reducible assumption) | assumption); first | exact h_ | (have e_ := (Kd.R_reads' HO_0.out).1; omega) | simpa using h_); obtain rfl := k69_openM hM13; have HP13 := Kd.R_seg HX13.out (x5_1 : Int) (of_decide_eq_true (by first | (with_reducible assumption) | assumption)) (by have h_ : (x5_1 : Int) < ((x0_1.length : Int) : Int) := of_decide_eq_true (by first | (with_reducible assumption) | assumption); first | exact h_ | (have e_ := (Kd.R_reads' HO_0.out).1; omega) | simpa using h_) (seg := [.int .i64 (wrap64 ((wrap64 (x1_1 + 1)) + 1))]) (j := 2) hcl13 hcc13 (show 3 ≤ 3 from by decide) (x' := (⟨(rd_T69 y333 x5_1).f0, (rd_T69 y333 x5_1).f1, wrap64 ((wrap64 (x1_1 + 1)) + 1)⟩ : S69)) (k69_mkM _ _ _ (⟨(rd_T69 y333 x5_1).f0, (rd_T69 y333 x5_1).f1, wrap64 ((wrap64 (x1_1 + 1)) + 1)⟩ : S69) ) (fun _ hk => hk); have hx13_2 := hcc13 2 _ rfl; (try simp only [show (k69).sz = 3 from rfl, Nat.mul_one, Nat.add_zero] at hx13_2); have hf13_2 := hfr13 2; (try simp only [show (k69).sz = 3 from rfl, Nat.mul_one, Nat.add_zero] at hf13_2); clear hcl13 hcc13 hfr13 hM13) | ((with_reducible refine gate_store (t := 2) (p := 30) rfl ?_); refine store_event (t := 2) (p := 30) (v := ?vo_w14) (w1 := (w12.setCell ⟨go5, (x5_1 : Int).toNat * 3 + 2, none⟩ (.int .i64 (wrap64 ((wrap64 (x1_1 + 1)) + 1))))) ?hg ?ho ?hn ?hr ?_; (case ho => rfl); (case hg => rfl); (case hn => rfl); (case hr => first | (go_simp; done) | (go_simp; rfl)); intro w14 hw; have hg : w12.grownBy w14 (some go5) := (by rw [hw]; exact HP13.2); have hp_ : Kd.R k69 69 w14 w0.heap.size (fun k_ => (P0_ k_ ∨ w.heap.size ≤ k_)) (.slice (some ⟨go5, 0, none⟩) x0_1.length co8) y334 := (by rw [hw, Ny334.out]; exact HP13.1); clear HP13; have n0_ := A0_ (hp_); have n1_ := A0_ ((by rw [hw]; exact below_set (HB.out) GB5.out : Below w0.heap.size w0 w14)); have n2_ := A0_ (Kept.of_grown (S := (fun k_ => P0_ k_)) hg (by repeat (first | (with_reducible first | exact HK.out | apply Kept.alloc | apply Kept.drewN | apply Kept.drew) | exact HK.out)) (fun k_ e_ => (HO_0.out.1 k_ e_))); clear HO_0; clear HB; clear HK; have HO_0 := n0_; have HB := n1_; have HK := n2_; clear n0_ n1_ n2_; clear hg hw hp_))
     (go_roundg k1)
     case measure => have := HK1.out; omega
     case rel => exact ⟨(y334), (wrap64 ((wrap64 ((wrap64 (x1_1 + 1)) + 1)) + 1)), (wrap64 (x5_1 + 1)), (by first | rfl | (simp; done) | (simp [*]; done)), (by first | rfl | (simp; done) | (simp [*]; done)), H', ⟨by have := HK1.out; omega⟩, ⟨by (with_reducible repeat (first | apply Ra_ | apply Rn_ | apply Rd_)); exact HO_0.out⟩, ⟨by repeat (first | (with_reducible first | exact HK.out | apply Kept.alloc | apply Kept.drewN | apply Kept.drew) | exact HK.out)⟩, ⟨by repeat (first | (with_reducible first | exact HB.out | apply ba_ | apply bn_ | apply bd_) | exact HB.out)⟩⟩
    ·(rw [if_neg c4] at H); (exact absurd H (by simp))
   ·(rw [if_neg c3] at H); (have c3b0 : decide (x5_1 < (x0_1.length : Int)) = false := decide_eq_false c3); clear c3; (simp only [Option.some.injEq, Prod.mk.injEq] at H); (obtain ⟨rfl, rfl⟩ := H); (obtain ⟨Ao15, co15, eo15⟩ := Kd.R_slice HO_0.out); subst eo15; go_wp2; go_ret; (exact ⟨by first | rfl | (simp [errW_none, errW_some] <;> rfl) | (simp [*, errW_none, errW_some] <;> rfl), by (with_reducible repeat (first | apply Ra_ | apply Rn_ | apply Rd_)); exact HO_0.out, by repeat (first | (with_reducible first | exact HB.out | apply ba_ | apply bn_ | apply bd_) | exact HB.out), by repeat (first | (with_reducible first | exact HK.out | apply Kept.alloc | apply Kept.drewN | apply Kept.drew) | exact HK.out)⟩)
end Go.Proofs.Ytlbckkagjekhnaa.A

/- Marks of the burrs' laws: numbers written into the cubes of an assembly, into rows of numbers; what is held. -/
namespace Go.Proofs.Ytlbckkagjekhnaa.A
set_option linter.unusedSimpArgs false
set_option linter.unusedVariables false
open Go.RowKit Go.Proofs.YtlbckkagjekhnaaW.PrintWords Go.Proofs.YtlbckkagjekhnaaW.PrintLast Go.Proofs.YtlbckkagjekhnaaW.PrintMore
abbrev kQ : Kd (List Cb) := Kd.slice 69 k69
def ints (c : Int) (n : Nat) : List Int := (List.range n).map fun (i : Nat) => c + (i : Int)
theorem ints_len (c : Int) (n : Nat) : (ints c n).length = n := by simp [ints]
theorem markInt64S_ev (l : List Int) (a : Int) (h : l.length ≤ 1048576) (h0 : 0 ≤ a) (h1 : a ≤ 1000000000000) : Ev (fun k => laws_markInt64S.f k l a) (a + (l.length : Int), ints a l.length) := by
  unfold laws_markInt64S.f
  refine ev_at l.length (fun (s : List Int × Int) j => s.1.length = l.length ∧ s.2 = a + (j : Int) ∧ s.1.take j = ints a j) (a + (l.length : Int), ints a l.length) (fun s i k => laws_markInt64S.l0 k s.1 s.2 i) (fun s hi => ?_) (fun s j hj hi => ?_) (l, a) ⟨rfl, by simp, by simp [ints]⟩
  · refine Ev.step (f := fun _ => some (s.2, s.1)) (fun k => by simp only [laws_markInt64S.l0]; rw [if_neg (by omega)]) ?_
    have h3 := hi.2.2
    rw [List.take_of_length_le (by omega)] at h3
    rw [hi.2.1, h3]
    exact Ev.now _
  · refine ⟨(s.1.set j s.2, s.2 + 1), ⟨by simp only [List.length_set]; exact hi.1, by simp only; omega, ?_⟩, fun h2 => Ev.step (fun k => ?_) h2⟩
    · have hl : j < (s.1.set j s.2).length := by rw [List.length_set]; omega
      simp only
      rw [List.take_succ_eq_append_getElem hl, List.getElem_set_self, List.take_set_of_le (Nat.le_refl j), hi.2.2, hi.2.1]
      simp [ints, List.range_succ]
    · simp only [laws_markInt64S.l0, Int.toNat_natCast]
      rw [if_pos (by omega), if_pos (by omega), wrap_succ j (by omega), show wrap64 (s.2 + 1) = s.2 + 1 from by have := hi.2.1; unfold wrap64; omega]
theorem heldInts_ev' (a : Int) (n : Nat) (h0 : 0 ≤ a) (h : a + n ≤ 1000000000000) : Ev (fun k => laws_heldInt64S.f k (ints a n) a) (a + (n : Int)) := by
  unfold laws_heldInt64S.f
  refine ev_at n (fun (s : Int) j => s = a + (j : Int)) (a + (n : Int)) (fun s i k => laws_heldInt64S.l0 k (ints a n) s i) (fun s hi => ?_) (fun s j hj hi => ?_) a (by simp)
  · exact Ev.step (f := fun _ => some s) (fun k => by simp only [laws_heldInt64S.l0]; rw [if_neg (by rw [ints_len]; omega)]) (by rw [hi]; exact Ev.now _)
  · refine ⟨s + 1, by omega, fun h2 => Ev.step (fun k => ?_) h2⟩
    have hg : (ints a n)[j]'(by rw [ints_len]; exact hj) = a + j := by simp [ints]
    simp only [laws_heldInt64S.l0]
    rw [if_pos (by rw [ints_len]; omega), if_pos (by omega), if_pos (by rw [rd_nat _ j (by rw [ints_len]; omega), hg]; omega), wrap_succ j (by omega), show wrap64 (s + 1) = s + 1 from by unfold wrap64; omega]
theorem eqInt64S_ev (l : List Int) (h : l.length ≤ 1048576) : Ev (fun k => laws_eqInt64S.f k l l) true := by
  unfold laws_eqInt64S.f
  simp only [if_true]
  refine ev_at l.length (fun (_ : Unit) _ => True) true (fun _ i k => laws_eqInt64S.l0 k l l i) (fun s hi => ?_) (fun s j hj hi => ?_) () trivial
  · exact Ev.step (f := fun _ => some true) (fun k => by simp only [laws_eqInt64S.l0]; rw [if_neg (by omega)]) (Ev.now _)
  · refine ⟨(), trivial, fun h2 => Ev.step (fun k => ?_) h2⟩
    simp only [laws_eqInt64S.l0, if_true]
    rw [if_pos (by omega), if_pos (by omega), if_pos (by omega), wrap_succ j (by omega)]
def marksC (a : Int) (n : Nat) : List Cb := (List.range n).map fun (i : Nat) => ⟨a + 3 * (i : Int), a + 3 * (i : Int) + 1, a + 3 * (i : Int) + 2⟩
theorem markCubeS_ev (l : List Cb) (a : Int) (h : l.length ≤ 1048576) (h0 : 0 ≤ a) (h1 : a ≤ 1000000000000) : Ev (fun k => laws_markCubeS.f k l a) (a + 3 * (l.length : Int), marksC a l.length) := by
  unfold laws_markCubeS.f
  refine ev_at l.length (fun (s : List Cb × Int) j => s.1.length = l.length ∧ s.2 = a + 3 * (j : Int) ∧ s.1.take j = marksC a j) (a + 3 * (l.length : Int), marksC a l.length) (fun s i k => laws_markCubeS.l0 k s.1 s.2 i) (fun s hi => ?_) (fun s j hj hi => ?_) (l, a) ⟨rfl, by simp, by simp [marksC]⟩
  · refine Ev.step (f := fun _ => some (s.2, s.1)) (fun k => by simp only [laws_markCubeS.l0]; rw [if_neg (by omega)]) ?_
    have h3 := hi.2.2
    rw [List.take_of_length_le (by omega)] at h3
    rw [hi.2.1, h3]
    exact Ev.now _
  · have w1 : wrap64 (s.2 + 1) = s.2 + 1 := by have := hi.2.1; unfold wrap64; omega
    have w2 : wrap64 (s.2 + 1 + 1) = s.2 + 2 := by have := hi.2.1; unfold wrap64; omega
    have w3 : wrap64 (s.2 + 2 + 1) = s.2 + 3 := by have := hi.2.1; unfold wrap64; omega
    refine ⟨(s.1.set j ⟨s.2, s.2 + 1, s.2 + 2⟩, s.2 + 3), ⟨by simp only [List.length_set]; exact hi.1, by simp only; omega, ?_⟩, fun h2 => Ev.step (fun k => ?_) h2⟩
    · have hl : j < (s.1.set j (⟨s.2, s.2 + 1, s.2 + 2⟩ : Cb)).length := by rw [List.length_set]; omega
      simp only
      rw [List.take_succ_eq_append_getElem hl, List.getElem_set_self, List.take_set_of_le (Nat.le_refl j), hi.2.2, hi.2.1]
      simp [marksC, List.range_succ]
    · simp only [laws_markCubeS.l0, Int.toNat_natCast, Option.bind_some, w1, w2, w3, rd_T69]
      rw [if_pos (by omega), if_pos (by omega), wrap_succ j (by omega)]
      have hg : ∀ (l : List Cb) (x : Cb) (hl : j < l.length), (l.set j x).getD j z69 = x := fun l x hl => by simp [List.getD_eq_getElem?_getD, hl]
      have hjl : j < s.1.length := by omega
      rw [hg _ _ hjl]
      dsimp only
      rw [hg _ _ (by rw [List.length_set]; exact hjl)]
      dsimp only
      rw [List.set_set, List.set_set]
def t3 (rows : List (List Cb)) : Int := 3 * tot2 rows
theorem t3_next (rows : List (List Cb)) (i : Nat) (h : i < rows.length) : t3 (rows.take (i + 1)) = t3 (rows.take i) + 3 * (rows[i].length : Int) := by
  unfold t3 tot2
  rw [List.take_succ_eq_append_getElem h, List.map_append, List.sum_append]
  simp
  omega
theorem t3_le (rows : List (List Cb)) (i : Nat) : t3 (rows.take i) ≤ t3 rows ∧ 0 ≤ t3 (rows.take i) := by
  unfold t3 tot2
  have := congrArg (fun l => (List.map List.length l).sum) (List.take_append_drop i rows)
  simp only [List.map_append, List.sum_append] at this
  omega
theorem t3_cons (r : List Cb) (rs : List (List Cb)) : t3 (r :: rs) = 3 * (r.length : Int) + t3 rs := by unfold t3; rw [tot2_cons]; omega
/-- Numbers from a on, in the cubes of rows as long as the given ones. -/
def marksQ : Int → List (List Cb) → List (List Cb)
  | _, [] => []
  | a, r :: rs => marksC a r.length :: marksQ (a + 3 * (r.length : Int)) rs
theorem marksQ_len : ∀ (rows : List (List Cb)) (a : Int), (marksQ a rows).length = rows.length
  | [], _ => rfl
  | r :: rs, a => by simp [marksQ, marksQ_len rs]
theorem marksQ_at : ∀ (rows : List (List Cb)) (a : Int) (i : Nat) (h : i < rows.length), (marksQ a rows)[i]? = some (marksC (a + t3 (rows.take i)) rows[i].length)
  | r :: rs, a, 0, h => by simp [marksQ, t3, tot2]
  | r :: rs, a, i + 1, h => by
    simp only [marksQ, List.getElem?_cons_succ, List.getElem_cons_succ, List.take_succ_cons]
    rw [marksQ_at rs _ i (by simpa using h), t3_cons]
    congr 2
    omega
set_option maxHeartbeats 1000000 in
set_option maxRecDepth 100000 in
theorem laws_markCubeSS.calls2 (rows : List (List Cb)) (fp : Nat → Prop) (u : Value) (a : Int) (w0 w : World) (hB : Below w0.heap.size w0 w) (hS : Kd.S kQ 34 w w0.heap.size fp u rows) (h0 : 0 ≤ a) (h1 : a + t3 rows ≤ 1000000000000) (hl : rows.length ≤ 1048576) (hr : ∀ r ∈ rows, r.length ≤ 1048576) :
    Calls Try.prog 21 #[u, .int .i64 a] w fun e w' => e = .returned (.int .i64 (a + t3 rows)) ∧ Kd.S kQ 34 w' w0.heap.size (fun k => fp k ∨ w.heap.size ≤ k) u (marksQ a rows) ∧ Below w0.heap.size w0 w' ∧ Kept w w' fp := by
  obtain ⟨A, c, rfl⟩ := Kd.S_slice hS
  have HS := A0_ (Kd.S_mono (ok' := fun k => fp k ∨ w.heap.size ≤ k) hS (fun k hk => .inl hk))
  have HB := A0_ hB
  have HK := A0_ (Kept.refl w fp)
  have HA := A0_ (And.intro h0 h1)
  have HL := A0_ hl
  have HR := A0_ hr
  clear hS hB h0 h1 hl hr
  go_enter Try.func21, Try.ntmps21
  go_wp2
  go_loopg [1, 5] (rows.length + 1) (fun kq v1 v5 w' => ∃ (i : Nat) (rs : List (List Cb)), v5 = .int .i64 (i : Int) ∧ v1 = .int .i64 (a + t3 (rows.take i)) ∧ Aside0 (i ≤ rows.length ∧ kq + i = rows.length + 1 ∧ rs.length = rows.length ∧ (∀ j, i ≤ j → rs[j]? = rows[j]?) ∧ ∀ j, j < i → rs[j]? = (marksQ a rows)[j]?) ∧ Aside0 (Kd.S kQ 34 w' w0.heap.size (fun k => fp k ∨ w.heap.size ≤ k) (.slice A rows.length c) rs) ∧ Aside0 (Below w0.heap.size w0 w') ∧ Aside0 (Kept w w' fp))
  case atStart => exact ⟨0, rows, rfl, by simp [t3, tot2], ⟨by omega, by omega, rfl, fun _ _ => rfl, fun j hj => by omega⟩, HS, HB, HK⟩
  case round =>
    clear HS HB HK
    obtain ⟨i, rs, rfl, rfl, HX, HS, HB, HK⟩ := hrel
    obtain ⟨k1, rfl⟩ : ∃ k1, gk = k1 + 1 := ⟨gk - 1, by have := HX.out; omega⟩
    by_cases ci : i < rows.length
    · have ci0 : decide (i < rows.length) = true := decide_eq_true ci
      have ci1 := eq_true ci
      have hrl := HX.out.2.2.1
      obtain ⟨g, cap, e, hgb, hgl, _⟩ := Kd.S_form HS.out (by omega)
      rw [hrl] at e
      injection e with e1 e2 e3
      subst e1 e3
      obtain ⟨oki, cc, hcl, hM, hcc, hfr, hoki, hH⟩ := Kd.S_elem HS.out [] (i : Int) (by omega) (by omega)
      have hget : rs.getD (i : Int).toNat [] = rows[i] := by
        rw [Int.toNat_natCast, List.getD_eq_getElem?_getD, HX.out.2.2.2.1 i (Nat.le_refl i), List.getElem?_eq_getElem ci]; rfl
      rw [hget] at hM
      obtain ⟨v, rfl, hRv⟩ := hM
      obtain ⟨A2, c2, rfl⟩ := Kd.R_slice hRv
      have hcell := hcc 0 _ rfl
      have ez : (i : Int).toNat * kQ.sz + 0 = i := by show (i : Int).toNat * 1 + 0 = i; omega
      rw [ez] at hcell
      obtain ⟨r, hrr⟩ : ∃ r, r = rows[i] := ⟨_, rfl⟩
      have htn := t3_next rows i ci
      rw [← hrr] at hRv hcell htn hH
      have HTN := A0_ htn
      have HMJ := A0_ (show (marksQ a rows)[i]? = some (marksC (a + t3 (rows.take i)) r.length) by rw [hrr]; exact marksQ_at rows a i ci)
      have hrlen : r.length ≤ 1048576 := hrr ▸ HR.out _ (List.getElem_mem ci)
      have htl := t3_le rows i
      have htl2 := t3_le rows (i + 1)
      obtain ⟨km, hkm⟩ := (markCubeS_ev r (a + t3 (rows.take i)) hrlen (by have := HA.out; omega) (by have := HA.out; omega)).rounds
      have HKM := A0_ hkm
      have HRV := A0_ hRv
      have HWI := A0_ (wrap_succ i (by have := HL.out; omega))
      have HH := A0_ hH
      have HOK := A0_ hoki
      have HC := A0_ ci
      have p0 : ((i : Int) < (rows.length : Int)) = True := eq_true (by omega)
      clear hkm hRv hH hoki hcl hcc hfr hget hrr htn htl htl2 hrlen ci
      go_wp2_with (first
        | (go_at_call 20; refine (laws_markCubeS.calls km oki _ r (a + t3 (rows.take i)) _ _ w0 _ HB.out HRV.out HKM.out).mono ?_; rintro e w1 ⟨rfl, ho, hb, hk⟩; have HO := A0_ ho; have HB1 := A0_ hb; have HKK := A0_ hk; clear ho hb hk))
      go_roundg k1
      case measure => omega
      case rel =>
        rw [HWI.out]
        refine ⟨i + 1, rs.set i (marksC (a + t3 (rows.take i)) r.length), rfl, by rw [HTN.out]; congr 1; omega, ⟨by have := HC.out; omega, by have := HX.out; omega, by rw [List.length_set]; exact HX.out.2.2.1, fun j hj => by rw [List.getElem?_set_ne (by omega)]; exact HX.out.2.2.2.1 j (by omega), fun j hj => by
          by_cases e : j = i
          · subst e; rw [List.getElem?_set_self (by rw [HX.out.2.2.1]; exact HC.out), HMJ.out]
          · rw [List.getElem?_set_ne (Ne.symm e)]; exact HX.out.2.2.2.2 j (by omega)⟩, ⟨?_⟩, HB1, ⟨?_⟩⟩
        · have hw := Kd.H_widen HH.out
          have hk2 := Kd.H_kept hw HKK.out (fun k _ hn hs => hn (.inl hs))
          have := Kd.H_back hk2 (x' := marksC (a + t3 (rows.take i)) r.length) ⟨_, rfl, Kd.R_mono (ok' := fun k => oki k ∨ (fp k ∨ w.heap.size ≤ k) ∧ wr.heap.size ≤ k) HO.out (fun k hk => hk.elim .inl (fun h => .inr ⟨.inr (Nat.le_trans HK.out.1 h), h⟩))⟩ (fun _ h => h)
          rw [Int.toNat_natCast] at this
          exact this
        · exact Kept.then_ HK.out HKK.out (fun k hk => (HOK.out k hk).1)
    · have ci0 : decide (i < rows.length) = false := decide_eq_false ci
      have hi : i = rows.length := by have := HX.out; omega
      have HI := A0_ hi
      clear ci hi
      go_wp2
      go_ret
      have e : rs = marksQ a rows := List.ext_getElem? (fun j => by
        by_cases c : j < rows.length
        · exact HX.out.2.2.2.2 j (by rw [HI.out]; exact c)
        · rw [List.getElem?_eq_none (by rw [HX.out.2.2.1]; omega), List.getElem?_eq_none (by rw [marksQ_len]; omega)])
      exact ⟨by rw [HI.out, List.take_length]; rfl, e ▸ HS.out, HB.out, HK.out⟩
set_option maxHeartbeats 1000000 in
set_option maxRecDepth 100000 in
theorem laws_markAssembly.calls2 (rows : List (List Cb)) (fp : Nat → Prop) (A : Option Addr) (n c : Nat) (a : Int) (w0 w : World) (hB : Below w0.heap.size w0 w) (hS : Kd.S kQ 34 w w0.heap.size fp (.slice A n c) rows) (h0 : 0 ≤ a) (h1 : a + t3 rows ≤ 1000000000000) (hl : rows.length ≤ 1048576) (hr : ∀ r ∈ rows, r.length ≤ 1048576) :
    Calls Try.prog 19 #[.agg #[.slice A n c], .int .i64 a] w fun e w' => e = .returned (.int .i64 (a + t3 rows)) ∧ ∃ rows', Kd.S kQ 34 w' w0.heap.size (fun k => fp k ∨ w.heap.size ≤ k) (.slice A n c) rows' ∧ Below w0.heap.size w0 w' ∧ Kept w w' fp := by
  have HS := A0_ (Kd.S_alloc hS (.cells #[.slice A n c] 32))
  have HB := A0_ (below_alloc hB (.cells #[.slice A n c] 32))
  have HKA := A0_ (Kept.alloc (Kept.refl w fp) (.cells #[.slice A n c] 32))
  have HA := A0_ (And.intro h0 h1)
  have HL := A0_ hl
  have HR := A0_ hr
  clear hS hB h0 h1 hl hr
  go_enter Try.func19, Try.ntmps19
  go_wp2_with (first
    | (go_at_call 21; refine (laws_markCubeSS.calls2 rows fp _ a w0 _ HB.out HS.out HA.out.1 HA.out.2 HL.out HR.out).mono ?_; rintro e w1 ⟨rfl, hs, hb, hk⟩; have HS1 := A0_ hs; have HB1 := A0_ hb; have HK1 := A0_ hk; clear hs hb hk))
  go_ret
  exact ⟨rfl, _, Kd.S_mono HS1.out (fun k hk => hk.imp_right (fun h => Nat.le_trans HKA.out.1 h)), HB1.out, Kept.then_ HKA.out HK1.out (fun k hk => .inl hk)⟩
end Go.Proofs.Ytlbckkagjekhnaa.A



/- What laws hold of rows of rows of cubes: sizes of offsets, held marks; the answer of RestOf is small. -/
namespace Go.Proofs.Ytlbckkagjekhnaa.A
open Go.RowKit Go.Proofs.YtlbckkagjekhnaaW.PrintWords Go.Proofs.YtlbckkagjekhnaaW.PrintLast Go.Proofs.YtlbckkagjekhnaaW.PrintMore
set_option linter.unusedVariables false
set_option linter.unusedSimpArgs false
theorem tot2_le : ∀ (rows : List (List Cb)) (n : Nat), (∀ p ∈ rows, p.length ≤ n) → tot2 rows ≤ (n : Int) * (rows.length : Int)
  | [], n, _ => by simp [tot2]
  | r :: rs, n, h => by
    rw [tot2_cons]
    have h1 := tot2_le rs n (fun p hp => h p (List.mem_cons_of_mem _ hp))
    have h2 := h r List.mem_cons_self
    rw [List.length_cons, Int.natCast_add, Int.mul_add]
    omega
theorem small_ok {rows : List (List Cb)} (h1 : rows.length ≤ 8) (h2 : ∀ p ∈ rows, p.length ≤ 64) : SzOk rows := by
  refine ⟨by omega, fun r hr => by have := h2 r hr; omega, ?_⟩
  have := tot2_le rows 64 h2
  have h3 : (64 : Int) * (rows.length : Int) ≤ 512 := by omega
  omega
end Go.Proofs.Ytlbckkagjekhnaa.A

/- Stages: plain words for both sides' orders. -/
namespace Go.Proofs.Ytlbckkagjekhnaa.A
open Go.RowKit Go.Proofs.YtlbckkagjekhnaaW.PrintWords Go.Proofs.YtlbckkagjekhnaaW.PrintLast Go.Proofs.YtlbckkagjekhnaaW.PrintMore
set_option linter.unusedVariables false
set_option linter.unusedSimpArgs false
abbrev Sg := S98
abbrev GSt := List Int × List Int × List (List Cb)
/-- One stage: names, order so far, parts. -/
def stepG (a : GSt) (st : Sg) : Option GSt :=
  if asmP a.2.2 = true then (followF a.2.2 st.f0).bind fun o => if (0 ≤ st.f1 ∧ st.f1 < 6 * (a.2.2.length : Int)) ∧ leavesP a.2.2 o (st.f1 / 6) (st.f1 % 6) = true then some (a.1.eraseIdx (st.f1 / 6).toNat, a.2.1 ++ [a.1.getD (st.f1 / 6).toNat 0], restP a.2.2 o (st.f1 / 6).toNat) else none else none
def namesP (n : Nat) : List Int := (List.range n).map fun (i : Nat) => (i : Int)
def stagesF (parts : List (List Cb)) (l : List Sg) : Option GSt := l.foldl (fun a st => a.bind fun x => stepG x st) (some (namesP parts.length, [], parts))
def orderM : Option GSt → List Int × Bool
  | some x => (x.2.1, true)
  | none => ([], false)
def orderR (parts : List (List Cb)) (l : List Sg) : List Int × Bool := if (l.length : Int) = (parts.length : Int) - 1 then orderM (stagesF parts l) else ([], false)
theorem stages_next (parts : List (List Cb)) (l : List Sg) (j : Nat) (h : j < l.length) : stagesF parts (l.take (j + 1)) = (stagesF parts (l.take j)).bind fun x => stepG x l[j] := by
  unfold stagesF
  rw [List.take_succ_eq_append_getElem h, List.foldl_append]
  rfl
theorem stages_dead (parts : List (List Cb)) (l : List Sg) (j : Nat) (h : stagesF parts (l.take j) = none) : stagesF parts l = none := by
  unfold stagesF at h ⊢
  rw [← List.take_append_drop j l, List.foldl_append, h]
  exact foldl_none _ _
theorem restP_len (parts : List (List Cb)) (o : List Cb) (p : Nat) (h : p < parts.length) : (restP parts o p).length = parts.length - 1 := by
  unfold restP backP
  rw [List.length_map, List.length_eraseIdx, allMoved_len, if_pos h]
/-- What holds of a state on the way. -/
structure GOk (a : GSt) (n i : Nat) : Prop where
  nm : a.1.length = a.2.2.length
  out : a.2.1.length = i
  len : a.2.2.length + i = n
  sz : SzOk a.2.2
theorem stepG_ok {a b : GSt} {st : Sg} {n i : Nat} (h : GOk a n i) (hs : stepG a st = some b) : GOk b n (i + 1) := by
  unfold stepG at hs
  by_cases c : asmP a.2.2 = true
  · rw [if_pos c] at hs
    cases hf : followF a.2.2 st.f0 with
    | none => rw [hf] at hs; cases hs
    | some o =>
      rw [hf, Option.bind_some] at hs
      by_cases d : (0 ≤ st.f1 ∧ st.f1 < 6 * (a.2.2.length : Int)) ∧ leavesP a.2.2 o (st.f1 / 6) (st.f1 % 6) = true
      · rw [if_pos d] at hs
        obtain rfl := Option.some.inj hs
        have hp : (st.f1 / 6).toNat < a.2.2.length := by have := d.1; omega
        have hr := asm_rows c
        have ho := allMoved_ok a.2.2 o (st.f1 / 6).toNat hr.1 hr.2 hp
        refine ⟨?_, ?_, ?_, ?_⟩
        · show (a.1.eraseIdx _).length = (restP a.2.2 o _).length
          rw [List.length_eraseIdx, if_pos (by rw [h.nm]; exact hp), restP_len _ _ _ hp, h.nm]
        · show (a.2.1 ++ [_]).length = i + 1
          rw [List.length_append, h.out]
          rfl
        · show (restP a.2.2 o _).length + (i + 1) = n
          rw [restP_len _ _ _ hp]
          have := h.len
          omega
        · show SzOk (restP a.2.2 o _)
          unfold restP backP
          refine small_ok (by rw [List.length_map]; exact ho.2.1) (fun p hp => ?_)
          obtain ⟨q, hq, rfl⟩ := List.mem_map.1 hp
          unfold downP
          rw [List.length_map]
          exact (ho.2.2 q hq).2
      · rw [if_neg d] at hs; cases hs
  · rw [if_neg c] at hs; cases hs
theorem GOk.start {parts : List (List Cb)} (hz : SzOk parts) : GOk (namesP parts.length, [], parts) parts.length 0 := ⟨by simp [namesP], rfl, rfl, hz⟩
end Go.Proofs.Ytlbckkagjekhnaa.A

/- slices.Delete of a row of numbers. -/
namespace Go.Proofs.Ytlbckkagjekhnaa.A
open Go.RowKit Go.Proofs.YtlbckkagjekhnaaW.PrintWords Go.Proofs.YtlbckkagjekhnaaW.PrintLast Go.Proofs.YtlbckkagjekhnaaW.PrintMore
set_option linter.unusedVariables false
set_option linter.unusedSimpArgs false
def laysDelI_ren : Go.Shelf.Ren := ⟨fun | 45 => 94 | n => n, fun | 22 => 53 | 23 => 2 | n => n, fun n => n⟩
theorem laysDelI : Go.Proofs.SlLaysE.n45 Try.prog laysDelI_ren := {
  mixed := by kernel_rfl
  f45 := ⟨Try.f94.name, by decide, Try.func94.trans (congrArg some (by kernel_rfl))⟩
  t0 := Try.underlying0
  a0 := Try.isAgg0
  z0 := Try.sizeOf0
  v0 := Try.zeroValue0
  t3 := Try.underlying3
  a3 := Try.isAgg3
  z3 := Try.sizeOf3
  v3 := Try.zeroValue3
  t4 := Try.underlying4
  a4 := Try.isAgg4
  z4 := Try.sizeOf4
  v4 := Try.zeroValue4
  t22 := Try.underlying53
  a22 := Try.isAgg53
  z22 := Try.sizeOf53
  v22 := Try.zeroValue53
  a23 := Try.isAgg2
  z23 := Try.sizeOf2 }
theorem infoDelI : (Try.prog.info? 2).map (fun i => i.size) = some 1 := by kernel_rfl
theorem delI_calls (w0 : World) (A : Option Addr) (n c : Nat) (xs : List Int) (rs : List Res) (j : Nat) (hj : j < xs.length) (w : World) (hn : n = xs.length) (h : Sp w0 (Res.row kI 2 w0.heap.size (.slice A n c) xs :: rs) w) :
    Calls Try.prog 94 #[.slice A n c, .int .i64 (j : Int), .int .i64 ((j : Int) + 1)] w fun ex w' => ex = .returned (.slice A (n - 1) c) ∧ Sp w0 (Res.row kI 2 w0.heap.size (.slice A (n - 1) c) (xs.eraseIdx j) :: rs) w' := by
  obtain ⟨i0, hi0, hz⟩ := Option.map_eq_some_iff.1 infoDelI
  exact delG laysDelI (fun x : Int => .int .i64 x) (fun _ => rfl) 0 Try.zeroValue2 i0 hi0 hz 2 w0 A n c xs rs j hj w hn h
end Go.Proofs.Ytlbckkagjekhnaa.A

/- The program's frame: leaves, free, walked. -/
namespace Go.Proofs.Ytlbckkagjekhnaa.A
open Go.RowKit Go.Proofs.YtlbckkagjekhnaaW.PrintWords Go.Proofs.YtlbckkagjekhnaaW.PrintLast Go.Proofs.YtlbckkagjekhnaaW.PrintMore
set_option linter.unusedVariables false
set_option linter.unusedSimpArgs false
def leaF.T4 : Bool × List (List Nat × List Nat) := (true, [([], []), ([], []), ([1], [1]), ([0, 2, 2], [0, 2]), ([3, 3, 0, 1, 2, 3], [3])])
def leaF.B4 : List Nat := [0, 0, 2, 7, 15]
theorem leaF.tab4 : rtab .any (opsOf Try.f93 4) = leaF.T4 := by kernel_rfl
theorem leaF.bits4 : waitsOk leaF.T4.2 leaF.B4 = true := by kernel_rfl
set_option maxHeartbeats 4000000 in
set_option maxRecDepth 100000 in
theorem leaves_calls (w0 : World) (Ap : Option Addr) (cp g gM : Nat) (parts : List (List Cb)) (hF : FrOk w0 Ap parts) (r : Res) (Ao : Addr) (co : Nat) (offs : List Cb) (hr : Rds w0 r (some Ao) offs) (hlo : offs.length = parts.length) (p : Nat) (hp : p < parts.length) (d : Int) (hd : 0 ≤ d ∧ d < 6) (rest : List Res) (w : World) (hs : Sp w0 ([frBlk g gM Ap cp parts, frMemo gM parts, r] ++ rest) w) :
    Calls Try.prog 93 #[.pointer (some ⟨g, 0, none⟩), .slice (some Ao) offs.length co, .int .i64 p, .int .i64 d] w fun e w' => e = .returned (.bool (leavesP parts offs p d)) ∧ Sp w0 ([frBlk g gM Ap cp parts, frMemo gM parts, r] ++ rest) w' := by
  have hu69 := Try.underlying69
  have HS := A0_ hs
  have HF := A0_ hF
  have HRD := A0_ hr
  have HLO := A0_ hlo
  have HP := A0_ hp
  have HVE := A0_ (fun w => vectorOf_calls d hd w)
  have q0 : (0 ≤ (p : Int)) = True := eq_true (by omega)
  have q1 : ((p : Int) < (offs.length : Int)) = True := eq_true (by omega)
  have q2 : (p < offs.length) = True := eq_true (by omega)
  obtain ⟨ad, e, hx0, hx1, hx2⟩ := at_T69 (Sp.rds hs (i := 2) rfl hr) (p : Int) (by omega) (by omega)
  injection e with e
  subst e
  rw [show rd_T69 offs (p : Int) = oAt offs p from rfl] at hx0 hx1 hx2
  rw [Int.toNat_natCast] at hx0 hx1 hx2
  have hlv : leavesP parts offs p d = (List.range 40).all fun j => aloneP parts offs p (stepO (oAt offs p) (vecP d) (j + 1)) := rfl
  obtain ⟨q0_, hq⟩ : ∃ q, q = oAt offs p := ⟨_, rfl⟩
  obtain ⟨v, hv⟩ : ∃ v, v = vecP d := ⟨_, rfl⟩
  rw [← hq] at hx0 hx1 hx2 hlv
  rw [← hv] at hlv HVE
  have HLV := A0_ hlv
  obtain ⟨R, hR⟩ : ∃ R, R = leavesP parts offs p d := ⟨_, rfl⟩
  rw [← hR] at HLV ⊢
  clear hs hF hr hlo hp hd hq hv hlv hR
  go_enter Try.func93, Try.ntmps93
  go_wp2
  obtain ⟨go, hg_⟩ : ∃ g_, g_ = (w).heap.size := ⟨_, rfl⟩; obtain ⟨wq, hw_⟩ : ∃ w_, w_ = (w).alloc (.cells #[.int .i64 q0_.f0, .int .i64 q0_.f1, .int .i64 q0_.f2] 69) := ⟨_, rfl⟩; (try rw [← hw_]); (try rw [← hg_]); have HS_ := A0_ (Sp.box HS.out #[.int .i64 q0_.f0, .int .i64 q0_.f1, .int .i64 q0_.f2] 69); rw [← hw_, ← hg_] at HS_; clear HS; have HS := HS_; clear HS_ hw_ hg_
  have HS_ := A0_ (Sp.arr (pre := [Res.blk go #[.int .i64 q0_.f0, .int .i64 q0_.f1, .int .i64 q0_.f2] 69, frBlk g gM Ap cp parts, frMemo gM parts, r]) (pre' := [frBlk g gM Ap cp parts, frMemo gM parts, r, Res.blk go #[.int .i64 q0_.f0, .int .i64 q0_.f1, .int .i64 q0_.f2] 69]) (rest := rest) [1, 2, 3, 0] HS.out rfl rfl)
  clear HS hx0 hx1 hx2
  have HS := HS_
  clear HS_
  go_loopg [14] 41 (fun kq v14 w' => ∃ (j : Nat) (q : Cb), v14 = .int .i64 (j : Int) ∧ Aside0 (j ≤ 40 ∧ kq + j = 41 ∧ q = stepO q0_ v j ∧ (List.range j).all (fun j => aloneP parts offs p (stepO q0_ v (j + 1))) = true) ∧ Aside0 (Sp w0 ([frBlk g gM Ap cp parts, frMemo gM parts, r, Res.blk go #[.int .i64 q.f0, .int .i64 q.f1, .int .i64 q.f2] 69] ++ rest) w'))
  case atStart => exact ⟨0, q0_, rfl, ⟨by omega, by omega, rfl, rfl⟩, HS⟩
  case round =>
    clear HS
    obtain ⟨j, q, rfl, HX, HS⟩ := hrel
    obtain ⟨k1, rfl⟩ : ∃ k1, gk = k1 + 1 := ⟨gk - 1, by have := HX.out; omega⟩
    by_cases cj : j < 40
    · have cj0 : decide (j < 40) = true := decide_eq_true cj
      have cj1 : (j < 40) = True := eq_true cj
      have cj2 : decide ((j : Int) < 40) = true := decide_eq_true (by omega)
      have cj3 : ((j : Int) < 40) = True := eq_true (by omega)
      have HW := A0_ (wrap_succ j (by omega))
      have HNX := A0_ (all_next (fun j => aloneP parts offs p (stepO q0_ v (j + 1))) j HX.out.2.2.2)
      have HNO := A0_ (fun h => HLV.out.trans (all_no (fun j => aloneP parts offs p (stepO q0_ v (j + 1))) j 40 cj h))
      have hst : stepO q0_ v (j + 1) = addC q v := by rw [HX.out.2.2.1]; rfl
      rw [hst] at HNX HNO
      have HST := A0_ hst
      have HCJ := A0_ cj
      clear cj hst
      go_wp2
      have HS_ := A0_ (show Sp w0 ([frBlk g gM Ap cp parts, frMemo gM parts, r, Res.blk go #[.int .i64 q.f0, .int .i64 q.f1, .int .i64 q.f2] 69] ++ rest) wr.drew from Sp.drew HS.out)
      clear HS
      have HS := HS_
      clear HS_
      refine start_ (n := 5) (S := fun w' => w'.cell? ⟨go, 0, none⟩ = some (.int .i64 q.f0) ∧ w'.cell? ⟨go, 1, none⟩ = some (.int .i64 q.f1) ∧ w'.cell? ⟨go, 2, none⟩ = some (.int .i64 q.f2)) (ds := [4]) #[false, false, false, false, false] (by kernel_rfl) rfl rfl (⟨(blk_cell (Sp.blk HS.out (i := 3) rfl).1 0).trans rfl, (blk_cell (Sp.blk HS.out (i := 3) rfl).1 1).trans rfl, (blk_cell (Sp.blk HS.out (i := 3) rfl).1 2).trans rfl⟩) (fun hHeld => ?_)
      refine with_tabW leaF.tab4 leaF.bits4 (fun HT_ HW_ => ?_)
      generalize wr.drew = wD at HS hHeld ⊢
      refine tk_ 0 (some 16) ?_
      refine on_ 1 (some 17) ?_
      refine o1_ 2 (some 18) (fun K hK => ?_)
      refine goes_ Try.func115 (by kernel_rfl) rfl #[.int .i64 d] (by rfl) rfl rfl (by (try simp only [List.map_toArray, List.map_cons, List.map_nil]); first | done | rfl | (simp only [List.length_drop, List.length_take]; rfl)) ?_
      refine (HVE.out _).mono ?_
      rintro e wA11 ⟨rfl, hb⟩
      refine ⟨_, rfl, ?_⟩
      have HS_ := A0_ (Sp.far HS.out hb)
      clear HS
      have HS := HS_
      clear HS_
      clear hb
      refine hK.out _ _ (⟨(blk_cell (Sp.blk HS.out (i := 3) rfl).1 0).trans rfl, (blk_cell (Sp.blk HS.out (i := 3) rfl).1 1).trans rfl, (blk_cell (Sp.blk HS.out (i := 3) rfl).1 2).trans rfl⟩) (fun hHeld => ?_)
      clear hK K
      refine nm_ (some 18) ?_
      refine o1_ 3 (some 19) (fun K hK => ?_)
      refine goes_ Try.func98 (by kernel_rfl) rfl #[.agg #[.int .i64 q.f0, .int .i64 q.f1, .int .i64 q.f2], .agg #[.int .i64 v.f0, .int .i64 v.f1, .int .i64 v.f2]] (by rfl) rfl rfl (by (try simp only [List.map_toArray, List.map_cons, List.map_nil]); first | done | rfl | (simp only [List.length_drop, List.length_take]; rfl)) ?_
      refine (impl_plusCube.calls q.f0 q.f1 q.f2 v.f0 v.f1 v.f2 (addC q v).f0 (addC q v).f1 (addC q v).f2 _ rfl).mono ?_
      rintro e wA12 ⟨rfl, hb⟩
      refine ⟨_, rfl, ?_⟩
      have HS_ := A0_ (Sp.far HS.out hb)
      clear HS
      have HS := HS_
      clear HS_
      clear hb
      refine hK.out _ _ (⟨(blk_cell (Sp.blk HS.out (i := 3) rfl).1 0).trans rfl, (blk_cell (Sp.blk HS.out (i := 3) rfl).1 1).trans rfl, (blk_cell (Sp.blk HS.out (i := 3) rfl).1 2).trans rfl⟩) (fun hHeld => ?_)
      clear hK K
      refine nm_ (some 19) ?_
      refine ol_ 4 none (fun K hK => ?_)
      refine skip_ (w1 := wA12.setCells go 0 (#[.int .i64 (addC q v).f0, .int .i64 (addC q v).f1, .int .i64 (addC q v).f2] : Array Value).toList) (by rfl) rfl (exec_store (v := .pointer (some ⟨go, 0, none⟩)) (u := .agg #[.int .i64 (addC q v).f0, .int .i64 (addC q v).f1, .int .i64 (addC q v).f2]) rfl (by first | rfl | (go_simp; done) | (go_simp; rfl)) (by first | rfl | (go_simp; done) | (go_simp; rfl)) (Sp.blkStore HS.out (i := 3) rfl (.agg #[.int .i64 (addC q v).f0, .int .i64 (addC q v).f1, .int .i64 (addC q v).f2]) (#[.int .i64 (addC q v).f0, .int .i64 (addC q v).f1, .int .i64 (addC q v).f2]) rfl rfl (by kernel_rfl) (by first | (simp; done) | (simp [Value.oneCell']; done) | (simp; exact ⟨rfl, rfl, rfl⟩)))) ?_
      obtain ⟨wS13, hw_⟩ : ∃ w_, w_ = wA12.setCells go 0 (#[.int .i64 (addC q v).f0, .int .i64 (addC q v).f1, .int .i64 (addC q v).f2] : Array Value).toList := ⟨_, rfl⟩
      rw [← hw_]
      have HS_ := A0_ (Sp.blkAll HS.out (i := 3) rfl (#[.int .i64 (addC q v).f0, .int .i64 (addC q v).f1, .int .i64 (addC q v).f2]) rfl)
      rw [← hw_] at HS_
      clear HS
      have HS := HS_
      clear HS_ hw_
      refine hK.out _ _ ?_
      clear hK K
      refine dn_ ?_
      obtain ⟨o, ho⟩ : ∃ o, o = addC q v := ⟨_, rfl⟩
      rw [← ho] at HS HNX HNO HST
      clear ho
      have hg0 := (blk_cell (Sp.blk HS.out (i := 3) rfl).1 0).trans rfl; have hg1 := (blk_cell (Sp.blk HS.out (i := 3) rfl).1 1).trans rfl; have hg2 := (blk_cell (Sp.blk HS.out (i := 3) rfl).1 2).trans rfl
      have HAL := A0_ (fun w2 hs => alone_calls w0 Ap cp g gM parts HF.out r (some Ao) co offs HRD.out (by have := HLO.out; omega) (p : Int) (by have := HP.out; omega) o ([Res.blk go #[.int .i64 o.f0, .int .i64 o.f1, .int .i64 o.f2] 69] ++ rest) w2 hs)
      cases ha : aloneP parts offs (p : Int) o with
      | false =>
        rw [ha] at HAL
        have HF2 := A0_ (HNO.out ha)
        clear ha HNX HNO
        go_wp2_with (first
          | (go_at_call 113; refine (HAL.out _ HS.out).mono ?_; rintro e wa_ ⟨rfl, hs_⟩; have HS_ := A0_ (hs_); clear HS; have HS := HS_; clear HS_; clear hs_ hg0 hg1 hg2))
        go_ret
        exact ⟨by rw [HF2.out]; rfl, Sp.out HS.out 3⟩
      | true =>
        rw [ha] at HAL
        have HN := A0_ (HNX.out.trans ha)
        clear ha HNX HNO
        go_wp2_with (first
          | (go_at_call 113; refine (HAL.out _ HS.out).mono ?_; rintro e wa_ ⟨rfl, hs_⟩; have HS_ := A0_ (hs_); clear HS; have HS := HS_; clear HS_; clear hs_ hg0 hg1 hg2))
        go_roundg k1
        case measure => omega
        case rel =>
          rw [HW.out]
          exact ⟨j + 1, o, rfl, ⟨by have := HCJ.out; omega, by have := HX.out; omega, HST.out.symm, HN.out⟩, HS⟩
    · have cj0 : decide (j < 40) = false := decide_eq_false cj
      have cj1 : (j < 40) = False := eq_false cj
      have cj2 : decide ((j : Int) < 40) = false := decide_eq_false (by omega)
      have cj3 : ((j : Int) < 40) = False := eq_false (by omega)
      have hj : j = 40 := by have := HX.out; omega
      have HT := A0_ (HLV.out.trans (hj ▸ HX.out.2.2.2))
      clear cj hj
      go_wp2
      go_ret
      exact ⟨by rw [HT.out]; rfl, Sp.out HS.out 3⟩
end Go.Proofs.Ytlbckkagjekhnaa.A

/- The program's stageOrder, walked. -/
namespace Go.Proofs.Ytlbckkagjekhnaa.A
open Go.RowKit Go.Proofs.YtlbckkagjekhnaaW.PrintWords Go.Proofs.YtlbckkagjekhnaaW.PrintLast Go.Proofs.YtlbckkagjekhnaaW.PrintMore
set_option linter.unusedVariables false
set_option linter.unusedSimpArgs false
def RdsP (w0 : World) (r : Res) (A : Option Addr) (pp : List (List Cb)) : Prop := ∀ (fp : Nat → Prop) (w : World), Below w0.heap.size w0 w → r.P fp w → kP.C w A pp.length pp
theorem RdsP.old {w0 : World} {A : Option Addr} {pp : List (List Cb)} (h : kP.C w0 A pp.length pp) : RdsP w0 (Res.pure True) A pp := fun _ w hb _ => Kd.C_below h hb
theorem RdsP.rowS {w0 : World} {A : Option Addr} {e base n c : Nat} {pp : List (List Cb)} : RdsP w0 (Res.rowS kP e base (.slice A n c) pp) A pp := fun fp w hb h => (Kd.S_reads' h).2.2
theorem Sp.rdsP {w0 w : World} {rs : List Res} {i : Nat} {r : Res} {A : Option Addr} {pp : List (List Cb)} (h : Sp w0 rs w) (hi : rs[i]? = some r) (hr : RdsP w0 r A pp) : kP.C w A pp.length pp := by
  obtain ⟨fp, hp, _⟩ := h.get hi
  exact hr fp w h.below hp
theorem namesP_next (n : Nat) : namesP (n + 1) = namesP n ++ [(n : Int)] := by
  unfold namesP
  rw [List.range_succ, List.map_append]
  rfl
theorem namesP_len (n : Nat) : (namesP n).length = n := by simp [namesP]
/-- What is asked of stages that come from a law's input. -/
structure SgOk (l : List Sg) : Prop where
  len : l.length ≤ 1048576
  mv : ∀ st ∈ l, st.f0.length ≤ 1048576 ∧ ∀ m ∈ st.f0, m ≤ 9223372036854775807
  out : ∀ st ∈ l, -9223372036854775808 ≤ st.f1 ∧ st.f1 ≤ 9223372036854775807
set_option maxHeartbeats 8000000 in
set_option maxRecDepth 100000 in
theorem stageOrder_calls (Ap : Option Addr) (cp : Nat) (parts : List (List Cb)) (As : Option Addr) (cs : Nat) (stages : List Sg) (w : World) (hC : kP.C w Ap parts.length parts) (hcp : parts.length ≤ cp) (hz : SzOk parts) (hS : k98.C w As stages.length stages) (hcs : stages.length ≤ cs) (hg : SgOk stages) :
    Calls Try.prog 63 #[.agg #[.slice Ap parts.length cp], .slice As stages.length cs] w fun e w' => ∃ v_ : Value, e = .returned (.tuple #[v_, .bool (orderR parts stages).2]) ∧ kI.R 2 w' w.heap.size (fun _ => True) v_ (orderR parts stages).1 ∧ Below w.heap.size w w' := by
  have hu32 := Try.underlying32
  have hu98 := Try.underlying98
  have HS := A0_ (Sp.start w)
  have HC := A0_ hC
  have HCP := A0_ hcp
  have HZ := A0_ hz
  have HSG := A0_ hS
  have HCS := A0_ hcs
  have HG := A0_ hg
  have HPL := A0_ (show parts.length ≤ 1048576 from hz.len)
  have w0 : wrap64 ((parts.length : Int) - 1) = (parts.length : Int) - 1 := by have := hz.len; unfold wrap64; omega
  obtain ⟨OR, hOR⟩ : ∃ OR, OR = orderR parts stages := ⟨_, rfl⟩
  rw [← hOR]
  by_cases c : (stages.length : Int) = (parts.length : Int) - 1
  · have HOR := A0_ (show OR = orderM (stagesF parts stages) by rw [hOR]; unfold orderR; rw [if_pos c])
    have c0 : ((stages.length : Int) == (parts.length : Int) - 1) = true := by rw [beq_iff_eq]; exact c
    have c1 : ((stages.length : Int) != (parts.length : Int) - 1) = false := by rw [bne_eq_false_iff_eq]; exact c
    have c2 : ((stages.length : Int) = (parts.length : Int) - 1) = True := eq_true c
    have HLN := A0_ c
    clear hC hcp hz hS hcs hg hOR c
    go_enter Try.func63, Try.ntmps63
    go_wp2_with (first
      | ((with_reducible refine gate_dst (N := 2) rfl ?_); refine box_event ?hg (N := 2) ?hd (cs := #[.slice Ap parts.length cp]) (t := 32) ?hr ?_; (case hd => rfl); (case hg => rfl); (case hr => first | (go_simp; done) | (go_simp; rfl)); intro ga hgb_ wb_ hcb_ hbb_; have HS_ := A0_ (Sp.boxed HS.out hgb_ hcb_ hbb_); clear HS; have HS := HS_; clear HS_; clear hgb_ hcb_ hbb_; have ha0 := (blk_cell (Sp.blk HS.out (i := 0) rfl).1 0).trans rfl)
      | ((with_reducible refine gate_dst (N := 23) rfl ?_); refine Kd.R_lit kI _ 2 ?hg (N := 23) ?hd (xs := ([] : List Int)) (inner := []) (ok := fun _ => True) (okp := fun _ => True) ?hr ?hp (fun _ hk => hk) trivial (Below.refl _ _) (Nat.le_refl _) (by simp) ?_; (case hd => rfl); (case hg => rfl); (case hr => first | (go_simp; done) | (go_simp; rfl)); (case hp => exact (Reps.none _ _)); intro vl_ wl_ ho_ hb_ hg_ hn_; clear hg_ hn_; have HS_ := A0_ (Sp.made' HS.out hb_ ho_); clear HS; have HS := HS_; clear HS_; clear ho_ hb_; obtain ⟨An, cn, ev_⟩ := Sp.slice HS.out (i := 0) rfl; subst ev_; clear ha0; have ha0 := (blk_cell (Sp.blk HS.out (i := 1) rfl).1 0).trans rfl))
    clear c0 c1 c2 w0 ha0
    go_loopg [6, 27] (parts.length + 1) (fun kq v6 v27 w' => ∃ (i : Nat) (An : Option Addr) (cn : Nat), v27 = .int .i64 (i : Int) ∧ v6 = .slice An (namesP i).length cn ∧ Aside0 (i ≤ parts.length ∧ kq + i = parts.length + 1) ∧ Aside0 (Sp w [Res.row kI 2 w.heap.size (.slice An (namesP i).length cn) (namesP i), Res.blk ga #[.slice Ap parts.length cp] 32] w'))
    case atStart => exact ⟨0, An, cn, rfl, rfl, ⟨by omega, by omega⟩, HS⟩
    case round =>
      clear HS
      obtain ⟨i, An, cn, rfl, rfl, HX, HS⟩ := hrel
      obtain ⟨k1, rfl⟩ : ∃ k1, gk = k1 + 1 := ⟨gk - 1, by have := HX.out; omega⟩
      by_cases ci : i < parts.length
      · have ci0 : decide (i < parts.length) = true := decide_eq_true ci
        have q1 : ((i : Int) < (parts.length : Int)) = True := eq_true (by omega)
        have q2 : (i < parts.length) = True := eq_true ci
        have HW := A0_ (wrap_succ i (by have := HPL.out; omega))
        have HNL := A0_ (namesP_len i)
        have HNN := A0_ (namesP_next i)
        have HCI := A0_ ci
        clear ci
        obtain ⟨nm, hnm⟩ : ∃ nm, nm = namesP i := ⟨_, rfl⟩
        rw [← hnm] at HS HNL HNN ⊢
        have HNM := A0_ hnm
        clear hnm
        go_wp2_with (first
          | ((with_reducible refine gate_dst (N := 32) rfl ?_); refine Kd.R_lit kI _ 2 ?hg (N := 32) ?hd (xs := ([(i : Int)] : List Int)) (inner := [.int .i64 (i : Int)]) (ok := fun _ => True) (okp := fun _ => True) ?hr ?hp (fun _ hk => hk) trivial (Below.refl _ _) (Nat.le_refl _) (by simp) ?_; (case hd => rfl); (case hg => rfl); (case hr => first | (go_simp; done) | (go_simp; rfl)); (case hp => exact (Reps.one rfl (Reps.none _ _))); intro vl_ wl_ ho_ hb_ hg_ hn_; clear hg_ hn_; have HS_ := A0_ (Sp.made' HS.out hb_ ho_); clear HS; have HS := HS_; clear HS_; clear ho_ hb_; obtain ⟨Al, cl, ev_⟩ := Sp.slice HS.out (i := 0) rfl; subst ev_)
          | ((with_reducible refine gate_builtin (b := .append) (xs := #[.tmp 30, .tmp 32]) rfl ?_); at_builtin; obtain ⟨fp_, ho_, hf_, hc_⟩ := Sp.row HS.out (i := 1) rfl; refine Kd.R_append_rows kI (w0 := w) w.heap.size rfl (.tmp 30) (.tmp 32) 53 2 ((.int .i64 0)) 8 rfl Try.underlying53 info2 rfl (by decide) (by omega) (.slice An nm.length cn) (nm) (([(i : Int)] : List Int)) _ _ _ _ (fun _ => False) rfl rfl ho_ ((Sp.reads HS.out (i := 0) rfl).2.2) (fun _ _ h => h) (fun _ h => h.elim) (fun _ h => Or.inr h) HS.out.below HS.out.below.size ?aL ?_; (case aL => (have := HNL.out; have := HPL.out; have := HX.out; simp only [List.length_cons, List.length_nil]; omega)); intro va_ wa_ ho hb hg hat; have HS_ := A0_ (hc_ _ _ _ ho hg); clear HS; have HS := HS_; clear HS_; clear ho hb hg hat hc_ hf_ ho_ fp_; obtain ⟨A2, c2, ev_⟩ := Sp.slice HS.out (i := 1) rfl; subst ev_))
        go_roundg k1
        case measure => omega
        case rel =>
          rw [HW.out]
          have h1 := Sp.out HS.out 0
          have h2 : Sp w [Res.row kI 2 w.heap.size (.slice A2 (nm ++ [(i : Int)]).length c2) (nm ++ [(i : Int)]), Res.blk ga #[.slice Ap parts.length cp] 32] _ := h1
          rw [← HNN.out] at h2
          exact ⟨i + 1, A2, c2, rfl, by rw [HNN.out, List.length_append]; rfl, ⟨by have := HCI.out; omega, by have := HX.out; omega⟩, ⟨h2⟩⟩
      · have ci0 : decide (i < parts.length) = false := decide_eq_false ci
        have q1 : ((i : Int) < (parts.length : Int)) = False := eq_false (by omega)
        have q2 : (i < parts.length) = False := eq_false ci
        have hi : i = parts.length := by have := HX.out; omega
        subst hi
        have HGS := A0_ (GOk.start HZ.out)
        obtain ⟨nm, hnm⟩ : ∃ nm, nm = namesP parts.length := ⟨_, rfl⟩
        have hst : stagesF parts (stages.take 0) = some (nm, [], parts) := by rw [hnm]; rfl
        rw [← hnm] at HS HGS ⊢
        have HST := A0_ hst
        have ha0 := (blk_cell (Sp.blk HS.out (i := 1) rfl).1 0).trans rfl
        clear ci hnm hst HX
        go_wp2_with (first
          | ((with_reducible refine gate_dst (N := 35) rfl ?_); refine Kd.R_lit kI _ 2 ?hg (N := 35) ?hd (xs := ([] : List Int)) (inner := []) (ok := fun _ => True) (okp := fun _ => True) ?hr ?hp (fun _ hk => hk) trivial (Below.refl _ _) (Nat.le_refl _) (by simp) ?_; (case hd => rfl); (case hg => rfl); (case hr => first | (go_simp; done) | (go_simp; rfl)); (case hp => exact (Reps.none _ _)); intro vl_ wl_ ho_ hb_ hg_ hn_; clear hg_ hn_; have HS_ := A0_ (Sp.made' HS.out hb_ ho_); clear HS; have HS := HS_; clear HS_; clear ho_ hb_; obtain ⟨Ao, co, ev_⟩ := Sp.slice HS.out (i := 0) rfl; subst ev_; clear ha0; have ha0 := (blk_cell (Sp.blk HS.out (i := 2) rfl).1 0).trans rfl))
        obtain ⟨gn, hg_⟩ : ∃ g_, g_ = (wl_).heap.size := ⟨_, rfl⟩; obtain ⟨wq, hw_⟩ : ∃ w_, w_ = (wl_).alloc (.cells #[.slice Ap parts.length cp] 32) := ⟨_, rfl⟩; (try rw [← hw_]); (try rw [← hg_]); have HS_ := A0_ (Sp.box HS.out #[.slice Ap parts.length cp] 32); rw [← hw_, ← hg_] at HS_; clear HS; have HS := HS_; clear HS_ hw_ hg_
        have HS_ : Aside0 (Sp w [Res.row kI 2 w.heap.size (.slice An nm.length cn) nm, Res.row kI 2 w.heap.size (.slice Ao ([] : List Int).length co) ([] : List Int), Res.blk gn #[.slice Ap parts.length cp] 32, Res.pure True] wq) := A0_ (Sp.arr (pre := [Res.pure True, Res.blk gn #[.slice Ap parts.length cp] 32, Res.row kI 2 w.heap.size (.slice Ao ([] : List Int).length co) ([] : List Int), Res.row kI 2 w.heap.size (.slice An nm.length cn) nm]) (pre' := [Res.row kI 2 w.heap.size (.slice An nm.length cn) nm, Res.row kI 2 w.heap.size (.slice Ao ([] : List Int).length co) ([] : List Int), Res.blk gn #[.slice Ap parts.length cp] 32, Res.pure True]) (rest := []) [3, 2, 1, 0] (Sp.out (Sp.pureIn HS.out trivial) 4) rfl rfl)
        clear HS ha0 ci0 q1 q2
        have HS := HS_
        clear HS_
        go_loopg [6, 8, 39] (stages.length + 1) (fun kq v6 v8 v39 w' => ∃ (j : Nat) (nm ou : List Int) (pp : List (List Cb)) (An Ao Aq : Option Addr) (cn co cq : Nat) (rQ : Res), v39 = .int .i64 (j : Int) ∧ v6 = .slice An nm.length cn ∧ v8 = .slice Ao ou.length co ∧ Aside0 (j ≤ stages.length ∧ kq + j = stages.length + 1 ∧ stagesF parts (stages.take j) = some (nm, ou, pp) ∧ GOk (nm, ou, pp) parts.length j ∧ pp.length ≤ cq ∧ RdsP w rQ Aq pp) ∧ Aside0 (Sp w [Res.row kI 2 w.heap.size (.slice An nm.length cn) nm, Res.row kI 2 w.heap.size (.slice Ao ou.length co) ou, Res.blk gn #[.slice Aq pp.length cq] 32, rQ] w'))
        case atStart => exact ⟨0, nm, [], parts, An, Ao, Ap, cn, co, cp, Res.pure True, rfl, rfl, rfl, ⟨by omega, by omega, HST.out, HGS.out, HCP.out, RdsP.old HC.out⟩, HS⟩
        case round =>
          clear HS HGS HST
          obtain ⟨j, nm, ou, pp, An, Ao, Aq, cn, co, cq, rQ, rfl, rfl, rfl, HX, HS⟩ := hrel
          obtain ⟨k1, rfl⟩ : ∃ k1, gk = k1 + 1 := ⟨gk - 1, by have := HX.out; omega⟩
          by_cases cj : j < stages.length
          · have cj0 : decide (j < stages.length) = true := decide_eq_true cj
            have q0 : (0 ≤ (j : Int)) = True := eq_true (by omega)
            have q1 : ((j : Int) < (stages.length : Int)) = True := eq_true (by omega)
            have q2 : (j < stages.length) = True := eq_true cj
            have HW := A0_ (wrap_succ j (by have := HG.out.len; omega))
            have hsn := stages_next parts stages j cj
            rw [HX.out.2.2.1, Option.bind_some] at hsn
            obtain ⟨ads, Am, cm, e, hx0, hx1, hx2, hx3⟩ := at_T98 HSG.out (j : Int) (by omega) (by omega)
            subst e
            have hge : rd_T98 stages (j : Int) = stages[j] := by unfold rd_T98; exact getD_nat stages _ j cj
            rw [hge] at hx0 hx1 hx2 hx3
            rw [Int.toNat_natCast] at hx0 hx1
            have hgm := HG.out.mv stages[j] (List.getElem_mem cj)
            have hgo := HG.out.out stages[j] (List.getElem_mem cj)
            obtain ⟨st, hst⟩ : ∃ st, st = stages[j] := ⟨_, rfl⟩
            rw [← hst] at hsn hx0 hx1 hx2 hx3 hgm hgo
            obtain ⟨mv, ot⟩ := st
            dsimp only at hx0 hx1 hx2 hx3 hgm hgo
            have hy0 := pw_cell_below HS.out.below hx0
            have hy1 := pw_cell_below HS.out.below hx1
            have HMC := A0_ hx3
            have HGM := A0_ hgm
            have HGO := A0_ hgo
            have HCJ := A0_ cj
            have hoks := HX.out.2.2.2.1
            have HRQ := A0_ HX.out.2.2.2.2.2
            have HSN := A0_ hsn
            clear cj hge hst hgm hgo hx0 hx1 hx3 hsn
            cases has : asmP pp with
            | false =>
              have HDE := A0_ (show stagesF parts stages = none from stages_dead parts stages (j + 1) (by rw [HSN.out]; unfold stepG; rw [if_neg (by rw [has]; simp)]))
              clear HSN
              go_wp2_with (first
                | ((with_reducible refine gate_dst (N := 11) rfl ?_); refine box_event ?hg (N := 11) ?hd (cs := #[.slice none 0 0, .int .i64 0]) (t := 98) ?hr ?_; (case hd => rfl); (case hg => rfl); (case hr => first | (go_simp; done) | (go_simp; rfl)); intro gs hgb_ wb_ hcb_ hbb_; have HS_ := A0_ (Sp.boxed HS.out hgb_ hcb_ hbb_); clear HS; have HS := HS_; clear HS_; clear hgb_ hcb_ hbb_; clear hy0 hy1)
                | ((with_reducible refine gate_store (t := 98) (p := 11) rfl ?_); refine store_event rfl rfl rfl (exec_store (v := .pointer (some ⟨gs, 0, none⟩)) (u := (.agg #[.slice Am mv.length cm, .int .i64 ot])) rfl ?hp ?hx (Sp.blkStore HS.out (i := 0) rfl ((.agg #[.slice Am mv.length cm, .int .i64 ot])) (#[.slice Am mv.length cm, .int .i64 ot]) rfl rfl (by kernel_rfl) (by first | (simp; done) | (simp [Value.oneCell']; done) | (simp; exact ⟨rfl, rfl, rfl⟩)))) ?_; (case hp => first | rfl | (go_simp; done) | (go_simp; rfl)); (case hx => first | rfl | (go_simp; done) | (go_simp; rfl)); intro ws_ hw_; have HS_ := A0_ (Sp.blkAll HS.out (i := 0) rfl (#[.slice Am mv.length cm, .int .i64 ot]) rfl); rw [← hw_] at HS_; clear HS hw_; have HS := HS_; clear HS_; have hn0 := (blk_cell (Sp.blk HS.out (i := 3) rfl).1 0).trans rfl)
                | (go_at_call 56; go_loud (have hia_ := iIsAsm_calls _ Aq cq pp (Sp.rdsP HS.out (i := 4) rfl HRQ.out) hoks.sz [] _ (Sp.start _); rw [show asmP pp = false from has] at hia_; refine hia_.mono ?_; rintro e wi_ ⟨rfl, hs_⟩; have HS_ := A0_ (Sp.far HS.out hs_.below); clear HS; have HS := HS_; clear HS_; clear hs_ hia_ hn0)))
              go_ret2
              rw [HOR.out, HDE.out]
              exact ⟨_, rfl, Kd.R_nil kI 2 _ _ _, HS.out.below⟩
            | true =>
              have HNE := A0_ (show 1 ≤ pp.length by have := (asm_of has).1; omega)
              have HAS := A0_ (show asmP pp = true from has)
              cases hfo : followF pp mv with
              | none =>
                have HDE := A0_ (show stagesF parts stages = none from stages_dead parts stages (j + 1) (by rw [HSN.out]; unfold stepG; rw [if_pos (show asmP pp = true from has)]; show (followF pp mv).bind _ = none; rw [hfo]; rfl))
                have HFN := A0_ hfo
                clear HSN has hfo
                go_wp2_with (first
                  | ((with_reducible refine gate_dst (N := 11) rfl ?_); refine box_event ?hg (N := 11) ?hd (cs := #[.slice none 0 0, .int .i64 0]) (t := 98) ?hr ?_; (case hd => rfl); (case hg => rfl); (case hr => first | (go_simp; done) | (go_simp; rfl)); intro gs hgb_ wb_ hcb_ hbb_; have HS_ := A0_ (Sp.boxed HS.out hgb_ hcb_ hbb_); clear HS; have HS := HS_; clear HS_; clear hgb_ hcb_ hbb_; clear hy0 hy1)
                  | ((with_reducible refine gate_store (t := 98) (p := 11) rfl ?_); refine store_event rfl rfl rfl (exec_store (v := .pointer (some ⟨gs, 0, none⟩)) (u := (.agg #[.slice Am mv.length cm, .int .i64 ot])) rfl ?hp ?hx (Sp.blkStore HS.out (i := 0) rfl ((.agg #[.slice Am mv.length cm, .int .i64 ot])) (#[.slice Am mv.length cm, .int .i64 ot]) rfl rfl (by kernel_rfl) (by first | (simp; done) | (simp [Value.oneCell']; done) | (simp; exact ⟨rfl, rfl, rfl⟩)))) ?_; (case hp => first | rfl | (go_simp; done) | (go_simp; rfl)); (case hx => first | rfl | (go_simp; done) | (go_simp; rfl)); intro ws_ hw_; have HS_ := A0_ (Sp.blkAll HS.out (i := 0) rfl (#[.slice Am mv.length cm, .int .i64 ot]) rfl); rw [← hw_] at HS_; clear HS hw_; have HS := HS_; clear HS_; have hn0 := (blk_cell (Sp.blk HS.out (i := 3) rfl).1 0).trans rfl)
                  | (go_at_call 56; go_loud (have hia_ := iIsAsm_calls _ Aq cq pp (Sp.rdsP HS.out (i := 4) rfl HRQ.out) hoks.sz [] _ (Sp.start _); rw [HAS.out] at hia_; refine hia_.mono ?_; rintro e wi_ ⟨rfl, hs_⟩; have HS_ := A0_ (Sp.far HS.out hs_.below); clear HS; have HS := HS_; clear HS_; clear hs_ hia_ hn0; have HBI := A0_ HS.out.below; have HCI2 := A0_ (Sp.rdsP HS.out (i := 4) rfl HRQ.out); have hn0 := (blk_cell (Sp.blk HS.out (i := 3) rfl).1 0).trans rfl))
                  | (go_at_call 68; go_loud (refine (newFrame_calls wi_ Aq cq pp [] wi_ (Sp.start wi_)).mono ?_; rintro e wn_ ⟨gf, gM, rfl, hs_⟩; have HL := A0_ hs_; have HSn := A0_ (Sp.far HS.out hs_.below); have hs0 := (blk_cell (Sp.blk HSn.out (i := 0) rfl).1 0).trans rfl; clear hs_ hn0))
                  | (go_at_call 69; go_loud (refine (follow_calls wi_ Aq cq gf gM pp (fr_at HCI2.out hoks.sz HAS.out) HNE.out (Res.pure True) Am cm mv (RdsI.old (Kd.C_below HMC.out HBI.out)) HGM.out.1 HGM.out.2 [] _ (Sp.arr (pre := [Res.pure True, frBlk gf gM Aq cq pp, frMemo gM pp]) (pre' := [frBlk gf gM Aq cq pp, frMemo gM pp, Res.pure True]) (rest := []) [1, 2, 0] (Sp.pureIn HL.out trivial) rfl rfl)).mono ?_; rintro e wo_ hp_; rcases hp_ with ⟨o_, A_, c_, hfo_, _⟩ | ⟨_, rfl, hs_⟩; (exact absurd (HFN.out.symm.trans hfo_) (by simp)); have HS_ := A0_ (Sp.far HS.out hs_.below); clear HS; have HS := HS_; clear HS_; clear hs_ hs0 HL HSn)))
                go_ret2
                rw [HOR.out, HDE.out]
                exact ⟨_, rfl, Kd.R_nil kI 2 _ _ _, HS.out.below⟩
              | some o =>
                have HFN := A0_ hfo
                have HW6 := A0_ (show wrap64 (wrap64 (6 * (pp.length : Int)) - 1) = 6 * (pp.length : Int) - 1 by have h1 : pp.length ≤ 1048576 := hoks.sz.len; unfold wrap64; omega)
                by_cases cw : 0 ≤ ot ∧ ot < 6 * (pp.length : Int)
                · have HWI := A0_ (show impl_within.f ot 0 (6 * (pp.length : Int) - 1) = some true by rw [within_eq]; unfold inR; rw [decide_eq_true cw.1, decide_eq_true (show ot ≤ 6 * (pp.length : Int) - 1 by omega)]; rfl)
                  have HSZ2 := A0_ (show SzOk pp from hoks.sz)
                  have HRW := A0_ (asm_rows has)
                  have HNL := A0_ (show nm.length = pp.length from hoks.nm)
                  have HOL2 := A0_ (show ou.length = j from hoks.out)
                  obtain ⟨p, hpd⟩ : ∃ p, p = (ot / 6).toNat := ⟨_, rfl⟩
                  have HPC := A0_ (show ot / 6 = (p : Int) by omega)
                  have HPP := A0_ (show p < pp.length by omega)
                  have HPD := A0_ hpd
                  have HD6 := A0_ (show 0 ≤ ot % 6 ∧ ot % 6 < 6 by omega)
                  have hdv : wrap64 (ot.tdiv 6) = (p : Int) := by rw [Int.tdiv_eq_ediv_of_nonneg cw.1]; have h1 : pp.length ≤ 1048576 := hoks.sz.len; unfold wrap64; omega
                  have HDV := A0_ hdv
                  have htm : ot.tmod 6 = ot % 6 := Int.tmod_eq_emod_of_nonneg cw.1
                  have HTM := A0_ htm
                  cases hlv : leavesP pp o (ot / 6) (ot % 6) with
                  | false =>
                    have HDE := A0_ (show stagesF parts stages = none from stages_dead parts stages (j + 1) (by rw [HSN.out]; unfold stepG; rw [if_pos (show asmP pp = true from has)]; show (followF pp mv).bind _ = none; rw [hfo]; show (if (0 ≤ ot ∧ ot < 6 * (pp.length : Int)) ∧ leavesP pp o (ot / 6) (ot % 6) = true then _ else _) = none; rw [if_neg (fun h => by rw [hlv] at h; exact absurd h.2 (by simp))]))
                    have HLV := A0_ (show leavesP pp o (p : Int) (ot % 6) = false by rw [← HPC.out]; exact hlv)
                    clear HSN has hfo cw hlv hpd hdv htm
                    go_wp2_with (first
                      | ((with_reducible refine gate_dst (N := 11) rfl ?_); refine box_event ?hg (N := 11) ?hd (cs := #[.slice none 0 0, .int .i64 0]) (t := 98) ?hr ?_; (case hd => rfl); (case hg => rfl); (case hr => first | (go_simp; done) | (go_simp; rfl)); intro gs hgb_ wb_ hcb_ hbb_; have HS_ := A0_ (Sp.boxed HS.out hgb_ hcb_ hbb_); clear HS; have HS := HS_; clear HS_; clear hgb_ hcb_ hbb_; clear hy0 hy1)
                      | ((with_reducible refine gate_store (t := 98) (p := 11) rfl ?_); refine store_event rfl rfl rfl (exec_store (v := .pointer (some ⟨gs, 0, none⟩)) (u := (.agg #[.slice Am mv.length cm, .int .i64 ot])) rfl ?hp ?hx (Sp.blkStore HS.out (i := 0) rfl ((.agg #[.slice Am mv.length cm, .int .i64 ot])) (#[.slice Am mv.length cm, .int .i64 ot]) rfl rfl (by kernel_rfl) (by first | (simp; done) | (simp [Value.oneCell']; done) | (simp; exact ⟨rfl, rfl, rfl⟩)))) ?_; (case hp => first | rfl | (go_simp; done) | (go_simp; rfl)); (case hx => first | rfl | (go_simp; done) | (go_simp; rfl)); intro ws_ hw_; have HS_ := A0_ (Sp.blkAll HS.out (i := 0) rfl (#[.slice Am mv.length cm, .int .i64 ot]) rfl); rw [← hw_] at HS_; clear HS hw_; have HS := HS_; clear HS_; have hn0 := (blk_cell (Sp.blk HS.out (i := 3) rfl).1 0).trans rfl; have hs0 := (blk_cell (Sp.blk HS.out (i := 0) rfl).1 0).trans rfl; have hs1 := (blk_cell (Sp.blk HS.out (i := 0) rfl).1 1).trans rfl)
                      | (go_at_call 56; go_loud (have hia_ := iIsAsm_calls _ Aq cq pp (Sp.rdsP HS.out (i := 4) rfl HRQ.out) hoks.sz [] _ (Sp.start _); rw [HAS.out] at hia_; refine hia_.mono ?_; rintro e wi_ ⟨rfl, hs_⟩; have HS_ := A0_ (Sp.far HS.out hs_.below); clear HS; have HS := HS_; clear HS_; clear hs_ hia_ hn0 hs0 hs1; have HBI := A0_ HS.out.below; have HCI2 := A0_ (Sp.rdsP HS.out (i := 4) rfl HRQ.out); have hn0 := (blk_cell (Sp.blk HS.out (i := 3) rfl).1 0).trans rfl))
                      | (go_at_call 68; go_loud (refine (newFrame_calls wi_ Aq cq pp [] wi_ (Sp.start wi_)).mono ?_; rintro e wn_ ⟨gf, gM, rfl, hs_⟩; have HL := A0_ hs_; have HSn := A0_ (Sp.far HS.out hs_.below); have hs0 := (blk_cell (Sp.blk HSn.out (i := 0) rfl).1 0).trans rfl; clear hs_ hn0))
                      | (go_at_call 69; go_loud (refine (follow_calls wi_ Aq cq gf gM pp (fr_at HCI2.out hoks.sz HAS.out) HNE.out (Res.pure True) Am cm mv (RdsI.old (Kd.C_below HMC.out HBI.out)) HGM.out.1 HGM.out.2 [] _ (Sp.arr (pre := [Res.pure True, frBlk gf gM Aq cq pp, frMemo gM pp]) (pre' := [frBlk gf gM Aq cq pp, frMemo gM pp, Res.pure True]) (rest := []) [1, 2, 0] (Sp.pureIn HL.out trivial) rfl rfl)).mono ?_; rintro e wo_ hp_; rcases hp_ with ⟨o_, A_, c_, hfo_, hlo_, rfl, hs_⟩ | ⟨hfo_, _⟩; rotate_left; (exact absurd (HFN.out.symm.trans hfo_) (by simp)); obtain rfl := Option.some.inj (HFN.out.symm.trans hfo_); have HLO := A0_ hlo_; obtain ⟨Ao_, e_⟩ := Sp.some_ hs_ (i := 0) rfl (by rw [hlo_]; exact HNE.out); subst e_; clear HL HSn hs0; have HL := A0_ hs_; have HSn := A0_ (Sp.far HS.out hs_.below); clear hs_ hfo_ hlo_; have hs1 := (blk_cell (Sp.blk HSn.out (i := 0) rfl).1 1).trans rfl; have hn0 := (blk_cell (Sp.blk HSn.out (i := 3) rfl).1 0).trans rfl))
                      | (go_at_call 50; go_loud (rw [HW6.out]; refine (impl_within.calls ot 0 (6 * (pp.length : Int) - 1) true _ HWI.out).mono ?_; rintro e ww_ ⟨rfl, hb_⟩; have HL_ := A0_ (Sp.far HL.out hb_.below); clear HL HSn hs1 hn0; have HL := HL_; clear HL_; have HSn := A0_ (Sp.far HS.out HL.out.below); have hs1 := (blk_cell (Sp.blk HSn.out (i := 0) rfl).1 1).trans rfl; have hn0 := (blk_cell (Sp.blk HSn.out (i := 3) rfl).1 0).trans rfl))
                      | (go_at_call 93; go_loud (have hlv_ := leaves_calls wi_ Aq cq gf gM pp (fr_at HCI2.out HSZ2.out HAS.out) (Res.row kC 69 wi_.heap.size (.slice (some Ao_) o.length c_) o) Ao_ c_ o Rds.row HLO.out p HPP.out (ot % 6) HD6.out [Res.pure True] _ (Sp.arr (pre := [Res.row kC 69 wi_.heap.size (.slice (some Ao_) o.length c_) o, frBlk gf gM Aq cq pp, frMemo gM pp, Res.pure True]) (pre' := [frBlk gf gM Aq cq pp, frMemo gM pp, Res.row kC 69 wi_.heap.size (.slice (some Ao_) o.length c_) o, Res.pure True]) (rest := []) [1, 2, 0, 3] HL.out rfl rfl); rw [HLV.out] at hlv_; (try rw [HDV.out]); (try rw [HTM.out]); refine hlv_.mono ?_; rintro e wl2_ ⟨rfl, hs_⟩; clear hlv_; have HS_ := A0_ (Sp.far HS.out hs_.below); clear HS; have HS := HS_; clear HS_; clear hs_ HL HSn hs1 hn0)))
                    go_ret2
                    rw [HOR.out, HDE.out]
                    exact ⟨_, rfl, Kd.R_nil kI 2 _ _ _, HS.out.below⟩
                  | true =>
                    obtain ⟨nx, hnx0⟩ : ∃ nx, nx = nm.getD p 0 := ⟨_, rfl⟩
                    have hst : stepG (nm, ou, pp) ⟨mv, ot⟩ = some (nm.eraseIdx p, ou ++ [nx], restP pp o p) := by
                      unfold stepG
                      rw [if_pos (show asmP pp = true from has)]
                      show (followF pp mv).bind _ = _
                      rw [hfo]
                      show (if (0 ≤ ot ∧ ot < 6 * (pp.length : Int)) ∧ leavesP pp o (ot / 6) (ot % 6) = true then _ else _) = _
                      rw [if_pos ⟨cw, hlv⟩, hnx0, hpd]
                    have HGN := A0_ (stepG_ok hoks hst)
                    have HST2 := A0_ (HSN.out.trans hst)
                    have HNX := A0_ hnx0.symm
                    have HLV := A0_ (show leavesP pp o (p : Int) (ot % 6) = true by rw [← HPC.out]; exact hlv)
                    have HPN := A0_ (show p < nm.length by rw [HNL.out]; exact HPP.out)
                    have HNP := A0_ (show 0 < nm.length by have := HPN.out; omega)
                    have HWP := A0_ (show wrap64 ((p : Int) + 1) = (p : Int) + 1 by have h1 : pp.length ≤ 1048576 := hoks.sz.len; have := HPP.out; unfold wrap64; omega)
                    have HOU := A0_ (show ou.length ≤ 1048576 by have := HOL2.out; have := HX.out.1; have := HG.out.len; omega)
                    have HCQ := A0_ HX.out.2.2.2.2.1
                    have p0 : (0 ≤ (p : Int)) = True := eq_true (by omega)
                    have p1 : ((p : Int) < (nm.length : Int)) = True := eq_true (by have := HPN.out; omega)
                    have p2 : (p < nm.length) = True := eq_true HPN.out
                    clear HSN has hfo cw hlv hpd hst hnx0
                    go_wp2_with (first
                      | ((with_reducible refine gate_dst (N := 11) rfl ?_); refine box_event ?hg (N := 11) ?hd (cs := #[.slice none 0 0, .int .i64 0]) (t := 98) ?hr ?_; (case hd => rfl); (case hg => rfl); (case hr => first | (go_simp; done) | (go_simp; rfl)); intro gs hgb_ wb_ hcb_ hbb_; have HS_ := A0_ (Sp.boxed HS.out hgb_ hcb_ hbb_); clear HS; have HS := HS_; clear HS_; clear hgb_ hcb_ hbb_; clear hy0 hy1)
                      | ((with_reducible refine gate_store (t := 98) (p := 11) rfl ?_); refine store_event rfl rfl rfl (exec_store (v := .pointer (some ⟨gs, 0, none⟩)) (u := (.agg #[.slice Am mv.length cm, .int .i64 ot])) rfl ?hp ?hx (Sp.blkStore HS.out (i := 0) rfl ((.agg #[.slice Am mv.length cm, .int .i64 ot])) (#[.slice Am mv.length cm, .int .i64 ot]) rfl rfl (by kernel_rfl) (by first | (simp; done) | (simp [Value.oneCell']; done) | (simp; exact ⟨rfl, rfl, rfl⟩)))) ?_; (case hp => first | rfl | (go_simp; done) | (go_simp; rfl)); (case hx => first | rfl | (go_simp; done) | (go_simp; rfl)); intro ws_ hw_; have HS_ := A0_ (Sp.blkAll HS.out (i := 0) rfl (#[.slice Am mv.length cm, .int .i64 ot]) rfl); rw [← hw_] at HS_; clear HS hw_; have HS := HS_; clear HS_; have hn0 := (blk_cell (Sp.blk HS.out (i := 3) rfl).1 0).trans rfl; have hs0 := (blk_cell (Sp.blk HS.out (i := 0) rfl).1 0).trans rfl; have hs1 := (blk_cell (Sp.blk HS.out (i := 0) rfl).1 1).trans rfl)
                      | (go_at_call 56; go_loud (have hia_ := iIsAsm_calls _ Aq cq pp (Sp.rdsP HS.out (i := 4) rfl HRQ.out) hoks.sz [] _ (Sp.start _); rw [HAS.out] at hia_; refine hia_.mono ?_; rintro e wi_ ⟨rfl, hs_⟩; have HS_ := A0_ (Sp.far HS.out hs_.below); clear HS; have HS := HS_; clear HS_; clear hs_ hia_ hn0 hs0 hs1; have HBI := A0_ HS.out.below; have HCI2 := A0_ (Sp.rdsP HS.out (i := 4) rfl HRQ.out); have hn0 := (blk_cell (Sp.blk HS.out (i := 3) rfl).1 0).trans rfl))
                      | (go_at_call 68; go_loud (refine (newFrame_calls wi_ Aq cq pp [] wi_ (Sp.start wi_)).mono ?_; rintro e wn_ ⟨gf, gM, rfl, hs_⟩; have HL := A0_ hs_; have HSn := A0_ (Sp.far HS.out hs_.below); have hs0 := (blk_cell (Sp.blk HSn.out (i := 0) rfl).1 0).trans rfl; clear hs_ hn0))
                      | (go_at_call 69; go_loud (refine (follow_calls wi_ Aq cq gf gM pp (fr_at HCI2.out hoks.sz HAS.out) HNE.out (Res.pure True) Am cm mv (RdsI.old (Kd.C_below HMC.out HBI.out)) HGM.out.1 HGM.out.2 [] _ (Sp.arr (pre := [Res.pure True, frBlk gf gM Aq cq pp, frMemo gM pp]) (pre' := [frBlk gf gM Aq cq pp, frMemo gM pp, Res.pure True]) (rest := []) [1, 2, 0] (Sp.pureIn HL.out trivial) rfl rfl)).mono ?_; rintro e wo_ hp_; rcases hp_ with ⟨o_, A_, c_, hfo_, hlo_, rfl, hs_⟩ | ⟨hfo_, _⟩; rotate_left; (exact absurd (HFN.out.symm.trans hfo_) (by simp)); obtain rfl := Option.some.inj (HFN.out.symm.trans hfo_); have HLO := A0_ hlo_; obtain ⟨Ao_, e_⟩ := Sp.some_ hs_ (i := 0) rfl (by rw [hlo_]; exact HNE.out); subst e_; clear HL HSn hs0; have HL := A0_ hs_; have HSn := A0_ (Sp.far HS.out hs_.below); clear hs_ hfo_ hlo_; have hs1 := (blk_cell (Sp.blk HSn.out (i := 0) rfl).1 1).trans rfl; have hn0 := (blk_cell (Sp.blk HSn.out (i := 3) rfl).1 0).trans rfl))
                      | (go_at_call 50; go_loud (rw [HW6.out]; refine (impl_within.calls ot 0 (6 * (pp.length : Int) - 1) true _ HWI.out).mono ?_; rintro e ww_ ⟨rfl, hb_⟩; have HL_ := A0_ (Sp.far HL.out hb_.below); clear HL HSn hs1 hn0; have HL := HL_; clear HL_; have HSn := A0_ (Sp.far HS.out HL.out.below); have hs1 := (blk_cell (Sp.blk HSn.out (i := 0) rfl).1 1).trans rfl; have hn0 := (blk_cell (Sp.blk HSn.out (i := 3) rfl).1 0).trans rfl))
                      | (go_at_call 93; go_loud (have hlv_ := leaves_calls wi_ Aq cq gf gM pp (fr_at HCI2.out HSZ2.out HAS.out) (Res.row kC 69 wi_.heap.size (.slice (some Ao_) o.length c_) o) Ao_ c_ o Rds.row HLO.out p HPP.out (ot % 6) HD6.out [Res.pure True] _ (Sp.arr (pre := [Res.row kC 69 wi_.heap.size (.slice (some Ao_) o.length c_) o, frBlk gf gM Aq cq pp, frMemo gM pp, Res.pure True]) (pre' := [frBlk gf gM Aq cq pp, frMemo gM pp, Res.row kC 69 wi_.heap.size (.slice (some Ao_) o.length c_) o, Res.pure True]) (rest := []) [1, 2, 0, 3] HL.out rfl rfl); rw [HLV.out] at hlv_; (try rw [HDV.out]); (try rw [HTM.out]); refine hlv_.mono ?_; rintro e wl2_ ⟨rfl, hs_⟩; clear hlv_; have hl3_ : Sp wi_ [Res.row kC 69 wi_.heap.size (.slice (some Ao_) o.length c_) o] _ := Sp.out (Sp.out (Sp.out hs_ 3) 0) 0; have HS_ := A0_ (Sp.weak (Sp.app HS.out hl3_) (i := 0) (r' := Res.row kC 69 w.heap.size (.slice (some Ao_) o.length c_) o) rfl (fun fp hp => Kd.R_lower hp HS.out.below.size)); clear HS; have HS := HS_; clear HS_; clear hs_ hl3_ HL HSn hs1 hn0; have hs1 := (blk_cell (Sp.blk HS.out (i := 1) rfl).1 1).trans rfl; have hn0 := (blk_cell (Sp.blk HS.out (i := 4) rfl).1 0).trans rfl; obtain ⟨adn, e_⟩ := Sp.some_ HS.out (i := 2) rfl HNP.out; subst e_; have hnx := Sp.intCell HS.out (i := 2) rfl p HPN.out; rw [HNX.out] at hnx))
                      | ((with_reducible refine gate_dst (N := 88) rfl ?_); refine Kd.R_lit kI _ 2 ?hg (N := 88) ?hd (xs := ([nx] : List Int)) (inner := [.int .i64 nx]) (ok := fun _ => True) (okp := fun _ => True) ?hr ?hp (fun _ hk => hk) trivial (Below.refl _ _) (Nat.le_refl _) (by simp) ?_; (case hd => rfl); (case hg => rfl); (case hr => first | (go_simp; done) | (go_simp; rfl)); (case hp => exact (Reps.one rfl (Reps.none _ _))); intro vl_ wl_ ho_ hb_ hg_ hn_; clear hg_ hn_; have HS_ := A0_ (Sp.made' HS.out hb_ ho_); clear HS; have HS := HS_; clear HS_; clear ho_ hb_; obtain ⟨Al, cl, ev_⟩ := Sp.slice HS.out (i := 0) rfl; subst ev_; clear hs1 hn0 hnx)
                      | ((with_reducible refine gate_builtin (b := .append) (xs := #[.tmp 83, .tmp 88]) rfl ?_); at_builtin; obtain ⟨fp_, ho_, hf_, hc_⟩ := Sp.row HS.out (i := 4) rfl; refine Kd.R_append_rows kI (w0 := w) w.heap.size rfl (.tmp 83) (.tmp 88) 53 2 ((.int .i64 0)) 8 rfl Try.underlying53 info2 rfl (by decide) (by omega) (.slice Ao ou.length co) (ou) (([nx] : List Int)) _ _ _ _ (fun _ => False) rfl rfl ho_ ((Sp.reads HS.out (i := 0) rfl).2.2) (fun _ _ h => h) (fun _ h => h.elim) (fun _ h => Or.inr h) HS.out.below HS.out.below.size ?aL ?_; (case aL => (have h1_ := HOU.out; simp only [List.length_cons, List.length_nil]; omega)); intro va_ wa_ ho hb hg hat; have HS_ := A0_ (hc_ _ _ _ ho hg); clear HS; have HS := HS_; clear HS_; clear ho hb hg hat hc_ hf_ ho_ fp_; obtain ⟨A2, c2, ev_⟩ := Sp.slice HS.out (i := 4) rfl; subst ev_)
                      | (go_at_call 94; go_loud (rw [HWP.out]; have h2_ := Sp.out HS.out 0; refine (delI_calls w (some adn) nm.length cn nm _ p HPN.out _ rfl (Sp.arr (pre := [Res.row kC 69 w.heap.size (.slice (some Ao_) o.length c_) o, Res.blk gs #[.slice Am mv.length cm, .int .i64 ot] 98, Res.row kI 2 w.heap.size (.slice (some adn) nm.length cn) nm]) (pre' := [Res.row kI 2 w.heap.size (.slice (some adn) nm.length cn) nm, Res.row kC 69 w.heap.size (.slice (some Ao_) o.length c_) o, Res.blk gs #[.slice Am mv.length cm, .int .i64 ot] 98]) [2, 0, 1] h2_ rfl rfl)).mono ?_; rintro e wd_ ⟨rfl, hs_⟩; have HS_ := A0_ (hs_); clear HS; have HS := HS_; clear HS_; clear hs_ h2_; have hn0 := (blk_cell (Sp.blk HS.out (i := 4) rfl).1 0).trans rfl))
                      | (go_at_call 51; go_loud (refine (restOf_calls Aq cq pp (some Ao_) c_ o p _ (Sp.rdsP HS.out (i := 5) rfl HRQ.out) HCQ.out (Sp.reads HS.out (i := 1) rfl).2.2 (Sp.reads HS.out (i := 1) rfl).2.1 HLO.out HRW.out.1 HRW.out.2 HPP.out).mono ?_; rintro e wr_ ⟨vr_, rfl, hs_, hb_⟩; have HS_ := A0_ (Sp.madeS HS.out hb_ hs_); clear HS; have HS := HS_; clear HS_; clear hb_ hs_ hn0; obtain ⟨Ar, cr, ev_⟩ := Sp.sliceS HS.out (i := 0) rfl; subst ev_; have HCR := A0_ (Sp.readsS HS.out (i := 0) rfl).2.1))
                      | ((with_reducible refine gate_store (t := 32) (p := 9) rfl ?_); refine store_event rfl rfl rfl (exec_store (v := .pointer (some ⟨gn, 0, none⟩)) (u := (.agg #[.slice Ar (restP pp o p).length cr])) rfl ?hp ?hx (Sp.blkStore HS.out (i := 5) rfl ((.agg #[.slice Ar (restP pp o p).length cr])) (#[.slice Ar (restP pp o p).length cr]) rfl rfl (by kernel_rfl) (by first | (simp; done) | (simp [Value.oneCell']; done) | (simp; exact ⟨rfl, rfl, rfl⟩)))) ?_; (case hp => first | rfl | (go_simp; done) | (go_simp; rfl)); (case hx => first | rfl | (go_simp; done) | (go_simp; rfl)); intro ws_ hw_; have HS_ := A0_ (Sp.blkAll HS.out (i := 5) rfl (#[.slice Ar (restP pp o p).length cr]) rfl); rw [← hw_] at HS_; clear HS hw_; have HS := HS_; clear HS_))
                    go_roundg k1
                    case measure => omega
                    case rel =>
                      rw [HW.out]
                      have hle : nm.length - 1 = (nm.eraseIdx p).length := by rw [List.length_eraseIdx, if_pos HPN.out]
                      have h3_ : Sp w [Res.rowS kP 34 w.heap.size (.slice Ar (restP pp o p).length cr) (restP pp o p), Res.row kI 2 w.heap.size (.slice (some adn) (nm.length - 1) cn) (nm.eraseIdx p), Res.row kC 69 w.heap.size (.slice (some Ao_) o.length c_) o, Res.blk gs #[.slice Am mv.length cm, .int .i64 ot] 98, Res.row kI 2 w.heap.size (.slice A2 (ou ++ [nx]).length c2) (ou ++ [nx]), Res.blk gn #[.slice Ar (restP pp o p).length cr] 32, rQ] _ := HS.out
                      have h4_ := Sp.arr (rest := []) (pre := [Res.rowS kP 34 w.heap.size (.slice Ar (restP pp o p).length cr) (restP pp o p), Res.row kI 2 w.heap.size (.slice (some adn) (nm.length - 1) cn) (nm.eraseIdx p), Res.row kC 69 w.heap.size (.slice (some Ao_) o.length c_) o, Res.blk gs #[.slice Am mv.length cm, .int .i64 ot] 98, Res.row kI 2 w.heap.size (.slice A2 (ou ++ [nx]).length c2) (ou ++ [nx]), Res.blk gn #[.slice Ar (restP pp o p).length cr] 32, rQ]) (pre' := [Res.row kI 2 w.heap.size (.slice (some adn) (nm.length - 1) cn) (nm.eraseIdx p), Res.row kI 2 w.heap.size (.slice A2 (ou ++ [nx]).length c2) (ou ++ [nx]), Res.blk gn #[.slice Ar (restP pp o p).length cr] 32, Res.rowS kP 34 w.heap.size (.slice Ar (restP pp o p).length cr) (restP pp o p), Res.row kC 69 w.heap.size (.slice (some Ao_) o.length c_) o, Res.blk gs #[.slice Am mv.length cm, .int .i64 ot] 98, rQ]) [1, 4, 5, 0, 2, 3, 6] h3_ rfl rfl
                      have h5_ := Sp.out (Sp.out (Sp.out h4_ 6) 5) 4
                      rw [hle] at h5_ ⊢
                      exact ⟨j + 1, _, _, _, some adn, A2, Ar, cn, c2, cr, _, rfl, rfl, by simp only [List.length_append, List.length_cons, List.length_nil], ⟨by have := HCJ.out; omega, by have := HX.out.2.1; omega, HST2.out, HGN.out, HCR.out, RdsP.rowS⟩, ⟨h5_⟩⟩
                · have HWI := A0_ (show impl_within.f ot 0 (6 * (pp.length : Int) - 1) = some false by rw [within_eq]; unfold inR; rw [Option.some.injEq, Bool.and_eq_false_iff, decide_eq_false_iff_not, decide_eq_false_iff_not]; omega)
                  have HDE := A0_ (show stagesF parts stages = none from stages_dead parts stages (j + 1) (by rw [HSN.out]; unfold stepG; rw [if_pos (show asmP pp = true from has)]; show (followF pp mv).bind _ = none; rw [hfo]; show (if (0 ≤ ot ∧ ot < 6 * (pp.length : Int)) ∧ leavesP pp o (ot / 6) (ot % 6) = true then _ else _) = none; rw [if_neg (fun h => cw h.1)]))
                  clear HSN has hfo cw
                  go_wp2_with (first
                  | ((with_reducible refine gate_dst (N := 11) rfl ?_); refine box_event ?hg (N := 11) ?hd (cs := #[.slice none 0 0, .int .i64 0]) (t := 98) ?hr ?_; (case hd => rfl); (case hg => rfl); (case hr => first | (go_simp; done) | (go_simp; rfl)); intro gs hgb_ wb_ hcb_ hbb_; have HS_ := A0_ (Sp.boxed HS.out hgb_ hcb_ hbb_); clear HS; have HS := HS_; clear HS_; clear hgb_ hcb_ hbb_; clear hy0 hy1)
                    | ((with_reducible refine gate_store (t := 98) (p := 11) rfl ?_); refine store_event rfl rfl rfl (exec_store (v := .pointer (some ⟨gs, 0, none⟩)) (u := (.agg #[.slice Am mv.length cm, .int .i64 ot])) rfl ?hp ?hx (Sp.blkStore HS.out (i := 0) rfl ((.agg #[.slice Am mv.length cm, .int .i64 ot])) (#[.slice Am mv.length cm, .int .i64 ot]) rfl rfl (by kernel_rfl) (by first | (simp; done) | (simp [Value.oneCell']; done) | (simp; exact ⟨rfl, rfl, rfl⟩)))) ?_; (case hp => first | rfl | (go_simp; done) | (go_simp; rfl)); (case hx => first | rfl | (go_simp; done) | (go_simp; rfl)); intro ws_ hw_; have HS_ := A0_ (Sp.blkAll HS.out (i := 0) rfl (#[.slice Am mv.length cm, .int .i64 ot]) rfl); rw [← hw_] at HS_; clear HS hw_; have HS := HS_; clear HS_; have hn0 := (blk_cell (Sp.blk HS.out (i := 3) rfl).1 0).trans rfl; have hs0 := (blk_cell (Sp.blk HS.out (i := 0) rfl).1 0).trans rfl; have hs1 := (blk_cell (Sp.blk HS.out (i := 0) rfl).1 1).trans rfl)
                    | (go_at_call 56; go_loud (have hia_ := iIsAsm_calls _ Aq cq pp (Sp.rdsP HS.out (i := 4) rfl HRQ.out) hoks.sz [] _ (Sp.start _); rw [HAS.out] at hia_; refine hia_.mono ?_; rintro e wi_ ⟨rfl, hs_⟩; have HS_ := A0_ (Sp.far HS.out hs_.below); clear HS; have HS := HS_; clear HS_; clear hs_ hia_ hn0 hs0 hs1; have HBI := A0_ HS.out.below; have HCI2 := A0_ (Sp.rdsP HS.out (i := 4) rfl HRQ.out); have hn0 := (blk_cell (Sp.blk HS.out (i := 3) rfl).1 0).trans rfl))
                    | (go_at_call 68; go_loud (refine (newFrame_calls wi_ Aq cq pp [] wi_ (Sp.start wi_)).mono ?_; rintro e wn_ ⟨gf, gM, rfl, hs_⟩; have HL := A0_ hs_; have HSn := A0_ (Sp.far HS.out hs_.below); have hs0 := (blk_cell (Sp.blk HSn.out (i := 0) rfl).1 0).trans rfl; clear hs_ hn0))
                    | (go_at_call 69; go_loud (refine (follow_calls wi_ Aq cq gf gM pp (fr_at HCI2.out hoks.sz HAS.out) HNE.out (Res.pure True) Am cm mv (RdsI.old (Kd.C_below HMC.out HBI.out)) HGM.out.1 HGM.out.2 [] _ (Sp.arr (pre := [Res.pure True, frBlk gf gM Aq cq pp, frMemo gM pp]) (pre' := [frBlk gf gM Aq cq pp, frMemo gM pp, Res.pure True]) (rest := []) [1, 2, 0] (Sp.pureIn HL.out trivial) rfl rfl)).mono ?_; rintro e wo_ hp_; rcases hp_ with ⟨o_, A_, c_, hfo_, hlo_, rfl, hs_⟩ | ⟨hfo_, _⟩; rotate_left; (exact absurd (HFN.out.symm.trans hfo_) (by simp)); obtain rfl := Option.some.inj (HFN.out.symm.trans hfo_); have HLO := A0_ hlo_; obtain ⟨Ao_, e_⟩ := Sp.some_ hs_ (i := 0) rfl (by rw [hlo_]; exact HNE.out); subst e_; clear HL HSn hs0; have HL := A0_ hs_; have HSn := A0_ (Sp.far HS.out hs_.below); clear hs_ hfo_ hlo_; have hs1 := (blk_cell (Sp.blk HSn.out (i := 0) rfl).1 1).trans rfl; have hn0 := (blk_cell (Sp.blk HSn.out (i := 3) rfl).1 0).trans rfl))
                    | (go_at_call 50; go_loud (rw [HW6.out]; refine (impl_within.calls ot 0 (6 * (pp.length : Int) - 1) false _ HWI.out).mono ?_; rintro e ww_ ⟨rfl, hb_⟩; have HL_ := A0_ (Sp.far HL.out hb_.below); clear HL HSn hs1 hn0; have HL := HL_; clear HL_; have HSn := A0_ (Sp.far HS.out HL.out.below))))
                  go_ret2
                  rw [HOR.out, HDE.out]
                  exact ⟨_, rfl, Kd.R_nil kI 2 _ _ _, HSn.out.below⟩
          · have cj0 : decide (j < stages.length) = false := decide_eq_false cj
            have q1 : ((j : Int) < (stages.length : Int)) = False := eq_false (by omega)
            have q2 : (j < stages.length) = False := eq_false cj
            have hj : j = stages.length := by have := HX.out.1; omega
            have HEN := A0_ (show stagesF parts stages = some (nm, ou, pp) by have h1 := HX.out.2.2.1; rw [hj, List.take_length] at h1; exact h1)
            clear cj hj
            go_wp2
            go_ret2
            rw [HOR.out, HEN.out]
            obtain ⟨fp_, hp_, _⟩ := Sp.get HS.out (i := 1) rfl
            exact ⟨_, rfl, Kd.R_mono hp_ (fun _ _ => trivial), HS.out.below⟩
  · have HOR := A0_ (show OR = ([], false) by rw [hOR]; unfold orderR; rw [if_neg c])
    have c0 : ((stages.length : Int) == (parts.length : Int) - 1) = false := by rw [beq_eq_false_iff_ne]; exact c
    have c1 : ((stages.length : Int) != (parts.length : Int) - 1) = true := by rw [bne_iff_ne]; exact c
    have c2 : ((stages.length : Int) = (parts.length : Int) - 1) = False := eq_false c
    clear hC hcp hz hS hcs hg hOR c
    go_enter Try.func63, Try.ntmps63
    go_wp2_with (first
      | ((with_reducible refine gate_dst (N := 2) rfl ?_); refine box_event ?hg (N := 2) ?hd (cs := #[.slice Ap parts.length cp]) (t := 32) ?hr ?_; (case hd => rfl); (case hg => rfl); (case hr => first | (go_simp; done) | (go_simp; rfl)); intro ga hgb_ wb_ hcb_ hbb_; have HS_ := A0_ (Sp.boxed HS.out hgb_ hcb_ hbb_); clear HS; have HS := HS_; clear HS_; clear hgb_ hcb_ hbb_; have ha0 := (blk_cell (Sp.blk HS.out (i := 0) rfl).1 0).trans rfl))
    go_ret2
    rw [HOR.out]
    exact ⟨_, rfl, Kd.R_nil kI 2 _ _ _, HS.out.below⟩
end Go.Proofs.Ytlbckkagjekhnaa.A

/- The statement's Leaves and Free answer as the program's. No program in sight. -/
namespace Go.Proofs.Ytlbckkagjekhnaa.A
open Go.RowKit Go.Proofs.YtlbckkagjekhnaaW.PrintWords Go.Proofs.YtlbckkagjekhnaaW.PrintLast Go.Proofs.YtlbckkagjekhnaaW.PrintMore
set_option linter.unusedVariables false
set_option linter.unusedSimpArgs false
theorem leaves_ev (parts : List (List Cb)) (offs : List Cb) (hl : offs.length = parts.length) (h8 : parts.length ≤ 8) (hsz : ∀ p ∈ parts, p.length ≤ 1048576) (hp : ∀ p ∈ parts, ∀ c ∈ p, inCb c 0 7 = true) (ho : ∀ j : Nat, j < offs.length → inCb (oAt offs j) (-12) 12 = true) (p : Nat) (hpl : p < parts.length) (d : Int) (hd : 0 ≤ d ∧ d < 6) :
    Ev (fun k => spec_l27Leaves.f k parts offs (p : Int) d) (leavesP parts offs p d) := Ev.val fun k => by
  unfold spec_l27Leaves.f
  rw [if_pos ⟨⟨hl, h8⟩, hsz, hp, fun c hc => by
    obtain ⟨i, hi, rfl⟩ := List.mem_iff_getElem.1 hc
    have e : oAt offs i = offs[i] := by simp [oAt, List.getD_eq_getElem?_getD, hi]
    rw [← e]
    exact ho i hi, ⟨by omega, by omega⟩, hd⟩]
end Go.Proofs.Ytlbckkagjekhnaa.A

