/- What the row of the law FnExactFindExit stands on, part 5. -/
import Derived.Test.YtlbckkagjekhnaaMFnExactFindExit4
namespace Go.Proofs.Ytlbckkagjekhnaa.A
open Go.RowKit Go.Proofs.YtlbckkagjekhnaaW.PrintWords Go.Proofs.YtlbckkagjekhnaaW.PrintLast Go.Proofs.YtlbckkagjekhnaaW.PrintMore
attribute [local go_sem] max2_int min2_int max_two min_two max_three min_three max_four min_four   -- for this text's walks alone
set_option linter.unusedVariables false
set_option linter.unusedSimpArgs false
def laws_eqCubeS.l0 : Nat → List (S69) → List (S69) → Int → Option (Bool)
  | 0, _, _, _ => none
  | k + 1, x0, x1, x5 => if x5 < (x0.length : Int) then (if 0 ≤ x5 then (if x5 < (x1.length : Int) then ((laws_eqCube.f ((rd_T69 x0 x5).f0) ((rd_T69 x0 x5).f1) ((rd_T69 x0 x5).f2) ((rd_T69 x1 x5).f0) ((rd_T69 x1 x5).f1) ((rd_T69 x1 x5).f2)).bind fun t325 => (if t325 = true then (laws_eqCubeS.l0 k x0 x1 (wrap64 (x5 + 1))) else (some false))) else (none)) else (none)) else (some true)
def laws_eqCubeS.f (k : Nat) (l0 : List (S69)) (l1 : List (S69)) : Option (Bool) := if (l0.length : Int) = (l1.length : Int) then (laws_eqCubeS.l0 k l0 l1 0) else (some false)
def laws_eqCubeS.T6 : Bool × List (List Nat × List Nat) := (true, [([], []), ([], []), ([0, 1], [0, 1]), ([2], [2]), ([], []), ([], []), ([4, 5], [4, 5]), ([6], [6]), ([3, 7], [3, 7]), ([8], [8])])
def laws_eqCubeS.B6 : List Nat := [0, 0, 3, 7, 0, 0, 48, 112, 255, 511]
theorem laws_eqCubeS.tab6 : rtab .any (opsOf Try.f18 6) = laws_eqCubeS.T6 := by kernel_rfl
theorem laws_eqCubeS.bits6 : waitsOk laws_eqCubeS.T6.2 laws_eqCubeS.B6 = true := by kernel_rfl
set_option maxHeartbeats 8000000 in
set_option maxRecDepth 100000 in
theorem laws_eqCubeS.calls (k : Nat) (A0 : Option Addr) (c0 : Nat) (l0 : List (S69)) (A1 : Option Addr) (c1 : Nat) (l1 : List (S69)) (r : Bool) (w : World) (hr0 : Kd.C k69 w A0 l0.length l0) (hc0 : l0.length ≤ c0) (hr1 : Kd.C k69 w A1 l1.length l1) (hc1 : l1.length ≤ c1) (h : laws_eqCubeS.f k l0 l1 = some r) :
    Calls Try.prog 18 #[.slice A0 l0.length c0, .slice A1 l1.length c1] w fun e w' => e = .returned (.bool r) ∧ Below w.heap.size w w' := by
 (have hu69 := Try.underlying69); (have HR0 := A0_ hr0); (have HC0 := A0_ hc0); clear hr0 hc0; (have HR1 := A0_ hr1); (have HC1 := A0_ hc1); clear hr1 hc1; (have HB := A0_ (Below.refl w.heap.size w)); (have H : (if (l0.length : Int) = (l1.length : Int) then (laws_eqCubeS.l0 k l0 l1 0) else (some false)) = some r := h); clear h; (by_cases c3 : (l0.length : Int) = (l1.length : Int))
 ·(rw [if_pos c3] at H); (have c3b0 : ((l0.length : Int) == (l1.length : Int)) = true := beq_iff_eq.mpr c3); (have c3b1 : ((l0.length : Int) != (l1.length : Int)) = false := bne_eq_false_iff_eq.mpr c3); (have c3b2 : (l0.length == l1.length) = true := by first | simpa using c3 | (simp at c3 ⊢; omega)); clear c3; (have H' := A0_ H); clear H; (go_enter Try.func18, Try.ntmps18); go_wp2
  go_loopg [5] k (fun kq v5 w' => ∃ (x5_1 : Int), v5 = .int .i64 x5_1 ∧ Aside0 (laws_eqCubeS.l0 kq l0 l1 x5_1 = some r) ∧ Aside0 (kq ≤ k) ∧ Aside0 (Below w.heap.size w w'))
  case atStart => exact ⟨(0), (by first | rfl | (simp; done) | (simp [*]; done)), H', ⟨Nat.le_refl _⟩, ⟨by repeat (first | (with_reducible first | exact HB.out | apply ba_ | apply bn_ | apply bd_) | exact HB.out)⟩⟩
  case round =>
   clear H'; (try clear c1); (try clear p2); (try clear c3); (try clear c3b0); (try clear c3b1); (try clear c3b2); (obtain ⟨x5_1, rfl, HA, HK1, HB⟩ := hrel)
   cases gk with
   | zero => exact absurd HA.out (by simp [laws_eqCubeS.l0])
   | succ k1 =>
    (have H := HA.out); clear HA; (simp only [laws_eqCubeS.l0] at H); (by_cases c4 : x5_1 < (l0.length : Int))
    ·(rw [if_pos c4] at H); (have c4b0 : decide (x5_1 < (l0.length : Int)) = true := decide_eq_true c4); clear c4; (by_cases c5 : 0 ≤ x5_1)
     ·(rw [if_pos c5] at H); (have c5b0 : decide (0 ≤ x5_1) = true := decide_eq_true c5); clear c5; (by_cases c6 : x5_1 < (l1.length : Int))
      ·(rw [if_pos c6] at H); (have c6b0 : decide (x5_1 < (l1.length : Int)) = true := decide_eq_true c6); clear c6; (replace H := Option.bind_eq_some_iff.mp H); (obtain ⟨t325, A70, H⟩ := H); (try dsimp only at H); (have A7 := A0_ A70); clear A70; (by_cases c8 : t325 = true)
       ·subst c8; (have H1 := H); (rw [if_pos rfl] at H1); clear H; (have H := H1); clear H1; (have H' := A0_ H); clear H; (try go_wp2); (have n0_ := A0_ (below_drew1 HB.out)); clear HB; (have HB := n0_); clear n0_; (have p323 : 0 ≤ (x5_1 : Int) := of_decide_eq_true (by first | (with_reducible assumption) | assumption)); (have q323 : x5_1 < (l0.length : Int) := of_decide_eq_true (by first | (with_reducible assumption) | assumption)); (obtain ⟨ad323, e323, hx323_0, hx323_1, hx323_2⟩ := at_T69 HR0.out x5_1 p323 q323); (have hw323_2 := hx323_2); (have hw323_1 := hx323_1); (have hw323_0 := hx323_0); (cases e323); (replace hx323_0 := (HB.out.cell (World.block_lt_of_cell? w _ hx323_0)).trans hx323_0); (replace hx323_1 := (HB.out.cell (World.block_lt_of_cell? w _ hx323_1)).trans hx323_1); (replace hx323_2 := (HB.out.cell (World.block_lt_of_cell? w _ hx323_2)).trans hx323_2); (replace p323 := eq_true p323); (replace q323 := eq_true q323); (have p324 : 0 ≤ (x5_1 : Int) := of_decide_eq_true (by first | (with_reducible assumption) | assumption)); (have q324 : x5_1 < (l1.length : Int) := of_decide_eq_true (by first | (with_reducible assumption) | assumption)); (obtain ⟨ad324, e324, hx324_0, hx324_1, hx324_2⟩ := at_T69 HR1.out x5_1 p324 q324); (have hw324_2 := hx324_2); (have hw324_1 := hx324_1); (have hw324_0 := hx324_0); (cases e324); (replace hx324_0 := (HB.out.cell (World.block_lt_of_cell? w _ hx324_0)).trans hx324_0); (replace hx324_1 := (HB.out.cell (World.block_lt_of_cell? w _ hx324_1)).trans hx324_1); (replace hx324_2 := (HB.out.cell (World.block_lt_of_cell? w _ hx324_2)).trans hx324_2); (replace p324 := eq_true p324); (replace q324 := eq_true q324)
        refine start_ (n := 10) (S := fun w' => w'.cell? (ad323.add ((x5_1).toNat * 3)) = some (.int .i64 ((rd_T69 l0 x5_1).f0)) ∧ w'.cell? ⟨(ad323.add ((x5_1).toNat * 3)).block, (ad323.add ((x5_1).toNat * 3)).off + 1, none⟩ = some (.int .i64 ((rd_T69 l0 x5_1).f1)) ∧ w'.cell? ⟨(ad323.add ((x5_1).toNat * 3)).block, (ad323.add ((x5_1).toNat * 3)).off + 2, none⟩ = some (.int .i64 ((rd_T69 l0 x5_1).f2)) ∧ w'.cell? (ad324.add ((x5_1).toNat * 3)) = some (.int .i64 ((rd_T69 l1 x5_1).f0)) ∧ w'.cell? ⟨(ad324.add ((x5_1).toNat * 3)).block, (ad324.add ((x5_1).toNat * 3)).off + 1, none⟩ = some (.int .i64 ((rd_T69 l1 x5_1).f1)) ∧ w'.cell? ⟨(ad324.add ((x5_1).toNat * 3)).block, (ad324.add ((x5_1).toNat * 3)).off + 2, none⟩ = some (.int .i64 ((rd_T69 l1 x5_1).f2))) (ds := []) #[ff,ff,ff,ff,ff,ff,ff,ff,ff,ff] (by kernel_rfl) rfl rfl ⟨((HB.out.cell (World.block_lt_of_cell? w _ hw323_0)).trans hw323_0), ((HB.out.cell (World.block_lt_of_cell? w _ hw323_1)).trans hw323_1), ((HB.out.cell (World.block_lt_of_cell? w _ hw323_2)).trans hw323_2), ((HB.out.cell (World.block_lt_of_cell? w _ hw324_0)).trans hw324_0), ((HB.out.cell (World.block_lt_of_cell? w _ hw324_1)).trans hw324_1), ((HB.out.cell (World.block_lt_of_cell? w _ hw324_2)).trans hw324_2)⟩ (fun hHeld => ?_); refine with_tabW laws_eqCubeS.tab6 laws_eqCubeS.bits6 (fun HT_ HW_ => ?_)
        (generalize wr.drew = w9 at HB hx323_0 hx323_1 hx323_2 hx324_0 hx324_1 hx324_2 hHeld ⊢)
        refine pure_ (i := 0) (N := some 17) (v := ?_) (a' := ?_) #[tt,ff,ff,ff,ff,ff,ff,ff,ff,ff] rfl rfl (any_of HT_.out (by kernel_rfl)) (fun _ _ _ h => h) (Or.inl ⟨by rfl, ?_⟩) ?_ ?_
        rotate_left
        ·intro w'; go_simp; with_reducible rfl
        rotate_left
        ·(simp only [Act.put, sia_, sz_, ss_, i64_w, i32_w]); rfl
        refine pure_ (i := 1) (N := some 18) (v := ?_) (a' := ?_) #[tt,tt,ff,ff,ff,ff,ff,ff,ff,ff] rfl rfl (any_of HT_.out (by kernel_rfl)) (fun _ _ _ h => h) (Or.inl ⟨by rfl, ?_⟩) ?_ ?_
        rotate_left
        ·intro w'; go_simp; with_reducible rfl
        rotate_left
        ·(simp only [Act.put, sia_, sz_, ss_, i64_w, i32_w]); rfl
        refine pure_ (i := 2) (N := some 19) (v := ?_) (a' := ?_) #[tt,tt,tt,ff,ff,ff,ff,ff,ff,ff] rfl rfl (any_of HT_.out (by kernel_rfl)) (fun _ _ _ h => h) (Or.inl ⟨by rfl, ?_⟩) ?_ ?_
        rotate_left
        ·intro w'; go_simp; with_reducible rfl
        rotate_left
        ·(simp only [Act.put, sia_, sz_, ss_, i64_w, i32_w]); rfl
        refine pure_ (i := 4) (N := some 21) (v := ?_) (a' := ?_) #[tt,tt,tt,ff,tt,ff,ff,ff,ff,ff] rfl rfl (any_of HT_.out (by kernel_rfl)) (fun _ _ _ h => h) (Or.inl ⟨by rfl, ?_⟩) ?_ ?_
        rotate_left
        ·intro w'; go_simp; with_reducible rfl
        rotate_left
        ·(simp only [Act.put, sia_, sz_, ss_, i64_w, i32_w]); rfl
        refine pure_ (i := 5) (N := some 22) (v := ?_) (a' := ?_) #[tt,tt,tt,ff,tt,tt,ff,ff,ff,ff] rfl rfl (any_of HT_.out (by kernel_rfl)) (fun _ _ _ h => h) (Or.inl ⟨by rfl, ?_⟩) ?_ ?_
        rotate_left
        ·intro w'; go_simp; with_reducible rfl
        rotate_left
        ·(simp only [Act.put, sia_, sz_, ss_, i64_w, i32_w]); rfl
        refine pure_ (i := 6) (N := some 23) (v := ?_) (a' := ?_) #[tt,tt,tt,ff,tt,tt,tt,ff,ff,ff] rfl rfl (any_of HT_.out (by kernel_rfl)) (fun _ _ _ h => h) (Or.inl ⟨by rfl, ?_⟩) ?_ ?_
        rotate_left
        ·intro w'; go_simp; with_reducible rfl
        rotate_left
        ·(simp only [Act.put, sia_, sz_, ss_, i64_w, i32_w]); rfl
        refine take_ (i := 3) (N := some 20) (v := ?_) (a' := ?_) #[tt,tt,tt,tt,tt,tt,tt,ff,ff,ff] rfl rfl (take_ofW HT_.out HW_.out (by kernel_rfl)) (fun _ _ _ h => h) (Or.inl ⟨by rfl, ?_⟩) hHeld ?_ ?_
        rotate_left
        ·(rintro w' ⟨s0, s1, s2, s3, s4, s5⟩); go_simp; with_reducible rfl
        rotate_left
        ·(simp only [Act.put, sia_, sz_, ss_, i64_w, i32_w]); rfl
        refine take_ (i := 7) (N := some 24) (v := ?_) (a' := ?_) #[tt,tt,tt,tt,tt,tt,tt,tt,ff,ff] rfl rfl (take_ofW HT_.out HW_.out (by kernel_rfl)) (fun _ _ _ h => h) (Or.inl ⟨by rfl, ?_⟩) hHeld ?_ ?_
        rotate_left
        ·(rintro w' ⟨s0, s1, s2, s3, s4, s5⟩); go_simp; with_reducible rfl
        rotate_left
        ·(simp only [Act.put, sia_, sz_, ss_, i64_w, i32_w]); rfl
        refine one_ (i := 8) (N := some 25) #[tt,tt,tt,tt,tt,tt,tt,tt,tt,ff] rfl rfl (one_of HT_.out (by kernel_rfl)) (by decide) (fun K hK => ?_)
        (refine goes_ Try.func52 (by kernel_rfl) rfl #[.agg #[.int .i64 ((rd_T69 l0 x5_1).f0), .int .i64 ((rd_T69 l0 x5_1).f1), .int .i64 ((rd_T69 l0 x5_1).f2)], .agg #[.int .i64 ((rd_T69 l1 x5_1).f0), .int .i64 ((rd_T69 l1 x5_1).f1), .int .i64 ((rd_T69 l1 x5_1).f2)]] (by rfl) rfl rfl (by (try simp only [List.map_toArray, List.map_cons, List.map_nil]); first | done | rfl | (simp only [List.length_drop, List.length_take]; rfl)) ?_); (with_reducible refine (laws_eqCube.calls ((rd_T69 l0 x5_1).f0) ((rd_T69 l0 x5_1).f1) ((rd_T69 l0 x5_1).f2) ((rd_T69 l1 x5_1).f0) ((rd_T69 l1 x5_1).f1) ((rd_T69 l1 x5_1).f2) true _ A7.out).mono ?_); (rintro e w10 ⟨rfl, hb⟩); (refine ⟨_, rfl, ?_⟩); (have n0_ := A0_ (below_step (by repeat (first | (with_reducible first | exact HB.out | apply ba_ | apply bn_ | apply bd_) | exact HB.out)) hb)); clear HB; (have HB := n0_); clear n0_; ((try clear hb)); ((try clear hb2)); ((try clear hk)); ((try clear hi))
        refine hK.out _ _ ⟨((HB.out.cell (World.block_lt_of_cell? w _ hw323_0)).trans hw323_0), ((HB.out.cell (World.block_lt_of_cell? w _ hw323_1)).trans hw323_1), ((HB.out.cell (World.block_lt_of_cell? w _ hw323_2)).trans hw323_2), ((HB.out.cell (World.block_lt_of_cell? w _ hw324_0)).trans hw324_0), ((HB.out.cell (World.block_lt_of_cell? w _ hw324_1)).trans hw324_1), ((HB.out.cell (World.block_lt_of_cell? w _ hw324_2)).trans hw324_2)⟩ (fun hHeld => ?_)
        clear hK K; (refine norm_ (a' := ?_) ?_ ?_); rotate_left
        ·(show Act.put _ (some 25) _ = _); (simp only [Act.put, sia_, sz_, ss_, i64_w, i32_w]); rfl
        refine pure_ (i := 9) (N := some 26) (v := ?_) (a' := ?_) #[tt,tt,tt,tt,tt,tt,tt,tt,tt,tt] rfl rfl (any_of HT_.out (by kernel_rfl)) (fun _ _ _ h => h) (Or.inl ⟨by rfl, ?_⟩) ?_ ?_
        rotate_left
        ·intro w'; go_simp; with_reducible rfl
        rotate_left
        ·(simp only [Act.put, sia_, sz_, ss_, i64_w, i32_w]); rfl
        (refine done_ (done_of HT_.out (by kernel_rfl)) ?_); (try go_wp2); (go_roundg k1)
        case measure => have := HK1.out; omega
        case rel => exact ⟨(wrap64 (x5_1 + 1)), (by first | rfl | (simp; done) | (simp [*]; done)), H', ⟨by have := HK1.out; omega⟩, ⟨by repeat (first | (with_reducible first | exact HB.out | apply ba_ | apply bn_ | apply bd_) | exact HB.out)⟩⟩
       ·(replace c8 := Bool.eq_false_iff.mpr c8); subst c8; (have H1 : (some false) = some r := by rw [if_neg (show ¬ (false = true) by decide)] at H; exact H); clear H; (have H := H1); clear H1; (obtain rfl := Option.some.inj H); (try go_wp2); (have n0_ := A0_ (below_drew1 HB.out)); clear HB; (have HB := n0_); clear n0_; (have p323 : 0 ≤ (x5_1 : Int) := of_decide_eq_true (by first | (with_reducible assumption) | assumption)); (have q323 : x5_1 < (l0.length : Int) := of_decide_eq_true (by first | (with_reducible assumption) | assumption)); (obtain ⟨ad323, e323, hx323_0, hx323_1, hx323_2⟩ := at_T69 HR0.out x5_1 p323 q323); (have hw323_2 := hx323_2); (have hw323_1 := hx323_1); (have hw323_0 := hx323_0); (cases e323); (replace hx323_0 := (HB.out.cell (World.block_lt_of_cell? w _ hx323_0)).trans hx323_0); (replace hx323_1 := (HB.out.cell (World.block_lt_of_cell? w _ hx323_1)).trans hx323_1); (replace hx323_2 := (HB.out.cell (World.block_lt_of_cell? w _ hx323_2)).trans hx323_2); (replace p323 := eq_true p323); (replace q323 := eq_true q323); (have p324 : 0 ≤ (x5_1 : Int) := of_decide_eq_true (by first | (with_reducible assumption) | assumption)); (have q324 : x5_1 < (l1.length : Int) := of_decide_eq_true (by first | (with_reducible assumption) | assumption)); (obtain ⟨ad324, e324, hx324_0, hx324_1, hx324_2⟩ := at_T69 HR1.out x5_1 p324 q324); (have hw324_2 := hx324_2); (have hw324_1 := hx324_1); (have hw324_0 := hx324_0); (cases e324); (replace hx324_0 := (HB.out.cell (World.block_lt_of_cell? w _ hx324_0)).trans hx324_0); (replace hx324_1 := (HB.out.cell (World.block_lt_of_cell? w _ hx324_1)).trans hx324_1); (replace hx324_2 := (HB.out.cell (World.block_lt_of_cell? w _ hx324_2)).trans hx324_2); (replace p324 := eq_true p324); (replace q324 := eq_true q324)
        refine start_ (n := 10) (S := fun w' => w'.cell? (ad323.add ((x5_1).toNat * 3)) = some (.int .i64 ((rd_T69 l0 x5_1).f0)) ∧ w'.cell? ⟨(ad323.add ((x5_1).toNat * 3)).block, (ad323.add ((x5_1).toNat * 3)).off + 1, none⟩ = some (.int .i64 ((rd_T69 l0 x5_1).f1)) ∧ w'.cell? ⟨(ad323.add ((x5_1).toNat * 3)).block, (ad323.add ((x5_1).toNat * 3)).off + 2, none⟩ = some (.int .i64 ((rd_T69 l0 x5_1).f2)) ∧ w'.cell? (ad324.add ((x5_1).toNat * 3)) = some (.int .i64 ((rd_T69 l1 x5_1).f0)) ∧ w'.cell? ⟨(ad324.add ((x5_1).toNat * 3)).block, (ad324.add ((x5_1).toNat * 3)).off + 1, none⟩ = some (.int .i64 ((rd_T69 l1 x5_1).f1)) ∧ w'.cell? ⟨(ad324.add ((x5_1).toNat * 3)).block, (ad324.add ((x5_1).toNat * 3)).off + 2, none⟩ = some (.int .i64 ((rd_T69 l1 x5_1).f2))) (ds := []) #[ff,ff,ff,ff,ff,ff,ff,ff,ff,ff] (by kernel_rfl) rfl rfl ⟨((HB.out.cell (World.block_lt_of_cell? w _ hw323_0)).trans hw323_0), ((HB.out.cell (World.block_lt_of_cell? w _ hw323_1)).trans hw323_1), ((HB.out.cell (World.block_lt_of_cell? w _ hw323_2)).trans hw323_2), ((HB.out.cell (World.block_lt_of_cell? w _ hw324_0)).trans hw324_0), ((HB.out.cell (World.block_lt_of_cell? w _ hw324_1)).trans hw324_1), ((HB.out.cell (World.block_lt_of_cell? w _ hw324_2)).trans hw324_2)⟩ (fun hHeld => ?_); refine with_tabW laws_eqCubeS.tab6 laws_eqCubeS.bits6 (fun HT_ HW_ => ?_)
        (generalize wr.drew = w11 at HB hx323_0 hx323_1 hx323_2 hx324_0 hx324_1 hx324_2 hHeld ⊢)
        refine pure_ (i := 0) (N := some 17) (v := ?_) (a' := ?_) #[tt,ff,ff,ff,ff,ff,ff,ff,ff,ff] rfl rfl (any_of HT_.out (by kernel_rfl)) (fun _ _ _ h => h) (Or.inl ⟨by rfl, ?_⟩) ?_ ?_
        rotate_left
        ·intro w'; go_simp; with_reducible rfl
        rotate_left
        ·(simp only [Act.put, sia_, sz_, ss_, i64_w, i32_w]); rfl
        refine pure_ (i := 1) (N := some 18) (v := ?_) (a' := ?_) #[tt,tt,ff,ff,ff,ff,ff,ff,ff,ff] rfl rfl (any_of HT_.out (by kernel_rfl)) (fun _ _ _ h => h) (Or.inl ⟨by rfl, ?_⟩) ?_ ?_
        rotate_left
        ·intro w'; go_simp; with_reducible rfl
        rotate_left
        ·(simp only [Act.put, sia_, sz_, ss_, i64_w, i32_w]); rfl
        refine pure_ (i := 2) (N := some 19) (v := ?_) (a' := ?_) #[tt,tt,tt,ff,ff,ff,ff,ff,ff,ff] rfl rfl (any_of HT_.out (by kernel_rfl)) (fun _ _ _ h => h) (Or.inl ⟨by rfl, ?_⟩) ?_ ?_
        rotate_left
        ·intro w'; go_simp; with_reducible rfl
        rotate_left
        ·(simp only [Act.put, sia_, sz_, ss_, i64_w, i32_w]); rfl
        refine pure_ (i := 4) (N := some 21) (v := ?_) (a' := ?_) #[tt,tt,tt,ff,tt,ff,ff,ff,ff,ff] rfl rfl (any_of HT_.out (by kernel_rfl)) (fun _ _ _ h => h) (Or.inl ⟨by rfl, ?_⟩) ?_ ?_
        rotate_left
        ·intro w'; go_simp; with_reducible rfl
        rotate_left
        ·(simp only [Act.put, sia_, sz_, ss_, i64_w, i32_w]); rfl
        refine pure_ (i := 5) (N := some 22) (v := ?_) (a' := ?_) #[tt,tt,tt,ff,tt,tt,ff,ff,ff,ff] rfl rfl (any_of HT_.out (by kernel_rfl)) (fun _ _ _ h => h) (Or.inl ⟨by rfl, ?_⟩) ?_ ?_
        rotate_left
        ·intro w'; go_simp; with_reducible rfl
        rotate_left
        ·(simp only [Act.put, sia_, sz_, ss_, i64_w, i32_w]); rfl
        refine pure_ (i := 6) (N := some 23) (v := ?_) (a' := ?_) #[tt,tt,tt,ff,tt,tt,tt,ff,ff,ff] rfl rfl (any_of HT_.out (by kernel_rfl)) (fun _ _ _ h => h) (Or.inl ⟨by rfl, ?_⟩) ?_ ?_
        rotate_left
        ·intro w'; go_simp; with_reducible rfl
        rotate_left
        ·(simp only [Act.put, sia_, sz_, ss_, i64_w, i32_w]); rfl
        refine take_ (i := 3) (N := some 20) (v := ?_) (a' := ?_) #[tt,tt,tt,tt,tt,tt,tt,ff,ff,ff] rfl rfl (take_ofW HT_.out HW_.out (by kernel_rfl)) (fun _ _ _ h => h) (Or.inl ⟨by rfl, ?_⟩) hHeld ?_ ?_
        rotate_left
        ·(rintro w' ⟨s0, s1, s2, s3, s4, s5⟩); go_simp; with_reducible rfl
        rotate_left
        ·(simp only [Act.put, sia_, sz_, ss_, i64_w, i32_w]); rfl
        refine take_ (i := 7) (N := some 24) (v := ?_) (a' := ?_) #[tt,tt,tt,tt,tt,tt,tt,tt,ff,ff] rfl rfl (take_ofW HT_.out HW_.out (by kernel_rfl)) (fun _ _ _ h => h) (Or.inl ⟨by rfl, ?_⟩) hHeld ?_ ?_
        rotate_left
        ·(rintro w' ⟨s0, s1, s2, s3, s4, s5⟩); go_simp; with_reducible rfl
        rotate_left
        ·(simp only [Act.put, sia_, sz_, ss_, i64_w, i32_w]); rfl
        refine one_ (i := 8) (N := some 25) #[tt,tt,tt,tt,tt,tt,tt,tt,tt,ff] rfl rfl (one_of HT_.out (by kernel_rfl)) (by decide) (fun K hK => ?_)
        (refine goes_ Try.func52 (by kernel_rfl) rfl #[.agg #[.int .i64 ((rd_T69 l0 x5_1).f0), .int .i64 ((rd_T69 l0 x5_1).f1), .int .i64 ((rd_T69 l0 x5_1).f2)], .agg #[.int .i64 ((rd_T69 l1 x5_1).f0), .int .i64 ((rd_T69 l1 x5_1).f1), .int .i64 ((rd_T69 l1 x5_1).f2)]] (by rfl) rfl rfl (by (try simp only [List.map_toArray, List.map_cons, List.map_nil]); first | done | rfl | (simp only [List.length_drop, List.length_take]; rfl)) ?_); (with_reducible refine (laws_eqCube.calls ((rd_T69 l0 x5_1).f0) ((rd_T69 l0 x5_1).f1) ((rd_T69 l0 x5_1).f2) ((rd_T69 l1 x5_1).f0) ((rd_T69 l1 x5_1).f1) ((rd_T69 l1 x5_1).f2) false _ A7.out).mono ?_); (rintro e w12 ⟨rfl, hb⟩); (refine ⟨_, rfl, ?_⟩); (have n0_ := A0_ (below_step (by repeat (first | (with_reducible first | exact HB.out | apply ba_ | apply bn_ | apply bd_) | exact HB.out)) hb)); clear HB; (have HB := n0_); clear n0_; ((try clear hb)); ((try clear hb2)); ((try clear hk)); ((try clear hi))
        refine hK.out _ _ ⟨((HB.out.cell (World.block_lt_of_cell? w _ hw323_0)).trans hw323_0), ((HB.out.cell (World.block_lt_of_cell? w _ hw323_1)).trans hw323_1), ((HB.out.cell (World.block_lt_of_cell? w _ hw323_2)).trans hw323_2), ((HB.out.cell (World.block_lt_of_cell? w _ hw324_0)).trans hw324_0), ((HB.out.cell (World.block_lt_of_cell? w _ hw324_1)).trans hw324_1), ((HB.out.cell (World.block_lt_of_cell? w _ hw324_2)).trans hw324_2)⟩ (fun hHeld => ?_)
        clear hK K; (refine norm_ (a' := ?_) ?_ ?_); rotate_left
        ·(show Act.put _ (some 25) _ = _); (simp only [Act.put, sia_, sz_, ss_, i64_w, i32_w]); rfl
        refine pure_ (i := 9) (N := some 26) (v := ?_) (a' := ?_) #[tt,tt,tt,tt,tt,tt,tt,tt,tt,tt] rfl rfl (any_of HT_.out (by kernel_rfl)) (fun _ _ _ h => h) (Or.inl ⟨by rfl, ?_⟩) ?_ ?_
        rotate_left
        ·intro w'; go_simp; with_reducible rfl
        rotate_left
        ·(simp only [Act.put, sia_, sz_, ss_, i64_w, i32_w]); rfl
        (refine done_ (done_of HT_.out (by kernel_rfl)) ?_); (try go_wp2); go_ret; (exact ⟨by first | rfl | (simp [errW_none, errW_some] <;> rfl) | (simp [*, errW_none, errW_some] <;> rfl), by repeat (first | (with_reducible first | exact HB.out | apply ba_ | apply bn_ | apply bd_) | exact HB.out)⟩)
      ·(rw [if_neg c6] at H); (exact absurd H (by simp))
     ·(rw [if_neg c5] at H); (exact absurd H (by simp))
    ·(rw [if_neg c4] at H); (have c4b0 : decide (x5_1 < (l0.length : Int)) = false := decide_eq_false c4); clear c4; (obtain rfl := Option.some.inj H); go_wp2; go_ret; (exact ⟨by first | rfl | (simp [errW_none, errW_some] <;> rfl) | (simp [*, errW_none, errW_some] <;> rfl), by repeat (first | (with_reducible first | exact HB.out | apply ba_ | apply bn_ | apply bd_) | exact HB.out)⟩)
 ·(rw [if_neg c3] at H); (have c3b0 : ((l0.length : Int) == (l1.length : Int)) = false := beq_eq_false_iff_ne.mpr c3); (have c3b1 : ((l0.length : Int) != (l1.length : Int)) = true := bne_iff_ne.mpr c3); (have c3b2 : (l0.length == l1.length) = false := by first | simpa using c3 | (simp at c3 ⊢; omega)); (obtain rfl := Option.some.inj H); (go_enter Try.func18, Try.ntmps18); go_wp2; go_ret; (exact ⟨by first | rfl | (simp [errW_none, errW_some] <;> rfl) | (simp [*, errW_none, errW_some] <;> rfl), by repeat (first | (with_reducible first | exact HB.out | apply ba_ | apply bn_ | apply bd_) | exact HB.out)⟩)
end Go.Proofs.Ytlbckkagjekhnaa.A

namespace Go.Proofs.Ytlbckkagjekhnaa.A
open Go.RowKit Go.Proofs.YtlbckkagjekhnaaW.PrintWords Go.Proofs.YtlbckkagjekhnaaW.PrintLast Go.Proofs.YtlbckkagjekhnaaW.PrintMore
attribute [local go_sem] max2_int min2_int max_two min_two max_three min_three max_four min_four   -- for this text's walks alone
set_option linter.unusedVariables false
set_option linter.unusedSimpArgs false
def laws_eqCubeSS.l0 : Nat → List (List (S69)) → List (List (S69)) → Int → Option (Bool)
  | 0, _, _, _ => none
  | k + 1, x0, x1, x5 => if x5 < (x0.length : Int) then (if 0 ≤ x5 then (if x5 < (x1.length : Int) then ((laws_eqCubeS.f k (rd_L4 x0 x5) (rd_L4 x1 x5)).bind fun t328 => (if t328 = true then (laws_eqCubeSS.l0 k x0 x1 (wrap64 (x5 + 1))) else (some false))) else (none)) else (none)) else (some true)
def laws_eqCubeSS.f (k : Nat) (l0 : List (List (S69))) (l1 : List (List (S69))) : Option (Bool) := if (l0.length : Int) = (l1.length : Int) then (laws_eqCubeSS.l0 k l0 l1 0) else (some false)
def laws_eqCubeSS.T6 : Bool × List (List Nat × List Nat) := (true, [([], []), ([], []), ([0, 1], [0, 1]), ([2], [2]), ([], []), ([], []), ([4, 5], [4, 5]), ([6], [6]), ([3, 7], [3, 7]), ([8], [8])])
def laws_eqCubeSS.B6 : List Nat := [0, 0, 3, 7, 0, 0, 48, 112, 255, 511]
theorem laws_eqCubeSS.tab6 : rtab .any (opsOf Try.f16 6) = laws_eqCubeSS.T6 := by kernel_rfl
theorem laws_eqCubeSS.bits6 : waitsOk laws_eqCubeSS.T6.2 laws_eqCubeSS.B6 = true := by kernel_rfl
set_option maxHeartbeats 8000000 in
set_option maxRecDepth 100000 in
theorem laws_eqCubeSS.calls (k : Nat) (A0 : Option Addr) (c0 : Nat) (l0 : List (List (S69))) (A1 : Option Addr) (c1 : Nat) (l1 : List (List (S69))) (r : Bool) (w : World) (hr0 : Kd.C (Kd.slice 69 k69) w A0 l0.length l0) (hc0 : l0.length ≤ c0) (hr1 : Kd.C (Kd.slice 69 k69) w A1 l1.length l1) (hc1 : l1.length ≤ c1) (h : laws_eqCubeSS.f k l0 l1 = some r) :
    Calls Try.prog 16 #[.slice A0 l0.length c0, .slice A1 l1.length c1] w fun e w' => e = .returned (.bool r) ∧ Below w.heap.size w w' := by
 (have HR0 := A0_ hr0); (have HC0 := A0_ hc0); clear hr0 hc0; (have HR1 := A0_ hr1); (have HC1 := A0_ hc1); clear hr1 hc1; (have HB := A0_ (Below.refl w.heap.size w)); (have H : (if (l0.length : Int) = (l1.length : Int) then (laws_eqCubeSS.l0 k l0 l1 0) else (some false)) = some r := h); clear h; (by_cases c3 : (l0.length : Int) = (l1.length : Int))
 ·(rw [if_pos c3] at H); (have c3b0 : ((l0.length : Int) == (l1.length : Int)) = true := beq_iff_eq.mpr c3); (have c3b1 : ((l0.length : Int) != (l1.length : Int)) = false := bne_eq_false_iff_eq.mpr c3); (have c3b2 : (l0.length == l1.length) = true := by first | simpa using c3 | (simp at c3 ⊢; omega)); clear c3; (have H' := A0_ H); clear H; (go_enter Try.func16, Try.ntmps16); go_wp2
  go_loopg [5] k (fun kq v5 w' => ∃ (x5_1 : Int), v5 = .int .i64 x5_1 ∧ Aside0 (laws_eqCubeSS.l0 kq l0 l1 x5_1 = some r) ∧ Aside0 (kq ≤ k) ∧ Aside0 (Below w.heap.size w w'))
  case atStart => exact ⟨(0), (by first | rfl | (simp; done) | (simp [*]; done)), H', ⟨Nat.le_refl _⟩, ⟨by repeat (first | (with_reducible first | exact HB.out | apply ba_ | apply bn_ | apply bd_) | exact HB.out)⟩⟩
  case round =>
   clear H'; (try clear c1); (try clear p2); (try clear c3); (try clear c3b0); (try clear c3b1); (try clear c3b2); (obtain ⟨x5_1, rfl, HA, HK1, HB⟩ := hrel)
   cases gk with
   | zero => exact absurd HA.out (by simp [laws_eqCubeSS.l0])
   | succ k1 =>
    (have H := HA.out); clear HA; (simp only [laws_eqCubeSS.l0] at H); (by_cases c4 : x5_1 < (l0.length : Int))
    ·(rw [if_pos c4] at H); (have c4b0 : decide (x5_1 < (l0.length : Int)) = true := decide_eq_true c4); clear c4; (by_cases c5 : 0 ≤ x5_1)
     ·(rw [if_pos c5] at H); (have c5b0 : decide (0 ≤ x5_1) = true := decide_eq_true c5); clear c5; (by_cases c6 : x5_1 < (l1.length : Int))
      ·(rw [if_pos c6] at H); (have c6b0 : decide (x5_1 < (l1.length : Int)) = true := decide_eq_true c6); clear c6; (replace H := Option.bind_eq_some_iff.mp H); (obtain ⟨t328, A70, H⟩ := H); (try dsimp only at H); (have A7 := A0_ A70); clear A70; (by_cases c8 : t328 = true)
       ·subst c8; (have H1 := H); (rw [if_pos rfl] at H1); clear H; (have H := H1); clear H1; (have H' := A0_ H); clear H; (try go_wp2); (have n0_ := A0_ (below_drew1 HB.out)); clear HB; (have HB := n0_); clear n0_; (have p326 : 0 ≤ (x5_1 : Int) := of_decide_eq_true (by first | (with_reducible assumption) | assumption)); (have q326 : x5_1 < (l0.length : Int) := of_decide_eq_true (by first | (with_reducible assumption) | assumption)); (obtain ⟨ad326, A326_0, c326_0, e326, hx326_0, hl326_0, hi326_0⟩ := at_L4 HR0.out x5_1 p326 q326); (have hw326_0 := hx326_0); (cases e326); (replace hx326_0 := (HB.out.cell (World.block_lt_of_cell? w _ hx326_0)).trans hx326_0); (have HR326_0 := A0_ hi326_0); (have HC326_0 := A0_ hl326_0); clear hi326_0 hl326_0; (replace p326 := eq_true p326); (replace q326 := eq_true q326); (have p327 : 0 ≤ (x5_1 : Int) := of_decide_eq_true (by first | (with_reducible assumption) | assumption)); (have q327 : x5_1 < (l1.length : Int) := of_decide_eq_true (by first | (with_reducible assumption) | assumption)); (obtain ⟨ad327, A327_0, c327_0, e327, hx327_0, hl327_0, hi327_0⟩ := at_L4 HR1.out x5_1 p327 q327); (have hw327_0 := hx327_0); (cases e327); (replace hx327_0 := (HB.out.cell (World.block_lt_of_cell? w _ hx327_0)).trans hx327_0); (have HR327_0 := A0_ hi327_0); (have HC327_0 := A0_ hl327_0); clear hi327_0 hl327_0; (replace p327 := eq_true p327); (replace q327 := eq_true q327)
        refine start_ (n := 10) (S := fun w' => w'.cell? (ad326.add (x5_1).toNat) = some (.slice A326_0 (rd_L4 l0 x5_1).length c326_0) ∧ w'.cell? (ad327.add (x5_1).toNat) = some (.slice A327_0 (rd_L4 l1 x5_1).length c327_0)) (ds := []) #[ff,ff,ff,ff,ff,ff,ff,ff,ff,ff] (by kernel_rfl) rfl rfl ⟨((HB.out.cell (World.block_lt_of_cell? w _ hw326_0)).trans hw326_0), ((HB.out.cell (World.block_lt_of_cell? w _ hw327_0)).trans hw327_0)⟩ (fun hHeld => ?_); refine with_tabW laws_eqCubeSS.tab6 laws_eqCubeSS.bits6 (fun HT_ HW_ => ?_)
        (generalize wr.drew = w9 at HB HR326_0 HR327_0 hx326_0 hx327_0 hHeld ⊢)
        refine pure_ (i := 0) (N := some 17) (v := ?_) (a' := ?_) #[tt,ff,ff,ff,ff,ff,ff,ff,ff,ff] rfl rfl (any_of HT_.out (by kernel_rfl)) (fun _ _ _ h => h) (Or.inl ⟨by rfl, ?_⟩) ?_ ?_
        rotate_left
        ·intro w'; go_simp; with_reducible rfl
        rotate_left
        ·(simp only [Act.put, sia_, sz_, ss_, i64_w, i32_w]); rfl
        refine pure_ (i := 1) (N := some 18) (v := ?_) (a' := ?_) #[tt,tt,ff,ff,ff,ff,ff,ff,ff,ff] rfl rfl (any_of HT_.out (by kernel_rfl)) (fun _ _ _ h => h) (Or.inl ⟨by rfl, ?_⟩) ?_ ?_
        rotate_left
        ·intro w'; go_simp; with_reducible rfl
        rotate_left
        ·(simp only [Act.put, sia_, sz_, ss_, i64_w, i32_w]); rfl
        refine pure_ (i := 2) (N := some 19) (v := ?_) (a' := ?_) #[tt,tt,tt,ff,ff,ff,ff,ff,ff,ff] rfl rfl (any_of HT_.out (by kernel_rfl)) (fun _ _ _ h => h) (Or.inl ⟨by rfl, ?_⟩) ?_ ?_
        rotate_left
        ·intro w'; go_simp; with_reducible rfl
        rotate_left
        ·(simp only [Act.put, sia_, sz_, ss_, i64_w, i32_w]); rfl
        refine pure_ (i := 4) (N := some 21) (v := ?_) (a' := ?_) #[tt,tt,tt,ff,tt,ff,ff,ff,ff,ff] rfl rfl (any_of HT_.out (by kernel_rfl)) (fun _ _ _ h => h) (Or.inl ⟨by rfl, ?_⟩) ?_ ?_
        rotate_left
        ·intro w'; go_simp; with_reducible rfl
        rotate_left
        ·(simp only [Act.put, sia_, sz_, ss_, i64_w, i32_w]); rfl
        refine pure_ (i := 5) (N := some 22) (v := ?_) (a' := ?_) #[tt,tt,tt,ff,tt,tt,ff,ff,ff,ff] rfl rfl (any_of HT_.out (by kernel_rfl)) (fun _ _ _ h => h) (Or.inl ⟨by rfl, ?_⟩) ?_ ?_
        rotate_left
        ·intro w'; go_simp; with_reducible rfl
        rotate_left
        ·(simp only [Act.put, sia_, sz_, ss_, i64_w, i32_w]); rfl
        refine pure_ (i := 6) (N := some 23) (v := ?_) (a' := ?_) #[tt,tt,tt,ff,tt,tt,tt,ff,ff,ff] rfl rfl (any_of HT_.out (by kernel_rfl)) (fun _ _ _ h => h) (Or.inl ⟨by rfl, ?_⟩) ?_ ?_
        rotate_left
        ·intro w'; go_simp; with_reducible rfl
        rotate_left
        ·(simp only [Act.put, sia_, sz_, ss_, i64_w, i32_w]); rfl
        refine take_ (i := 3) (N := some 20) (v := ?_) (a' := ?_) #[tt,tt,tt,tt,tt,tt,tt,ff,ff,ff] rfl rfl (take_ofW HT_.out HW_.out (by kernel_rfl)) (fun _ _ _ h => h) (Or.inl ⟨by rfl, ?_⟩) hHeld ?_ ?_
        rotate_left
        ·(rintro w' ⟨s0, s1⟩); go_simp; with_reducible rfl
        rotate_left
        ·(simp only [Act.put, sia_, sz_, ss_, i64_w, i32_w]); rfl
        refine take_ (i := 7) (N := some 24) (v := ?_) (a' := ?_) #[tt,tt,tt,tt,tt,tt,tt,tt,ff,ff] rfl rfl (take_ofW HT_.out HW_.out (by kernel_rfl)) (fun _ _ _ h => h) (Or.inl ⟨by rfl, ?_⟩) hHeld ?_ ?_
        rotate_left
        ·(rintro w' ⟨s0, s1⟩); go_simp; with_reducible rfl
        rotate_left
        ·(simp only [Act.put, sia_, sz_, ss_, i64_w, i32_w]); rfl
        refine one_ (i := 8) (N := some 25) #[tt,tt,tt,tt,tt,tt,tt,tt,tt,ff] rfl rfl (one_of HT_.out (by kernel_rfl)) (by decide) (fun K hK => ?_)
        (refine goes_ Try.func18 (by kernel_rfl) rfl #[.slice A326_0 (rd_L4 l0 x5_1).length c326_0, .slice A327_0 (rd_L4 l1 x5_1).length c327_0] (by rfl) rfl rfl (by (try simp only [List.map_toArray, List.map_cons, List.map_nil]); first | done | rfl | (simp only [List.length_drop, List.length_take]; rfl)) ?_); (with_reducible refine (laws_eqCubeS.calls k1 _ _ (rd_L4 l0 x5_1) _ _ (rd_L4 l1 x5_1) true _ ?side1 ?side2 ?side3 ?side4 A7.out).mono ?_); ((case side1 => repeat (first | exact (Kd.C_below HR326_0.out HB.out) | (with_reducible refine Kd.C_alloc ?_ _) | (with_reducible refine Kd.C_drewN ?_ _) | (with_reducible refine Kd.C_drew ?_)))); ((case side2 => exact HC326_0.out)); ((case side3 => repeat (first | exact (Kd.C_below HR327_0.out HB.out) | (with_reducible refine Kd.C_alloc ?_ _) | (with_reducible refine Kd.C_drewN ?_ _) | (with_reducible refine Kd.C_drew ?_)))); ((case side4 => exact HC327_0.out)); (rintro e w10 ⟨rfl, hb⟩); (refine ⟨_, rfl, ?_⟩); (have n0_ := A0_ (below_step (by repeat (first | (with_reducible first | exact HB.out | apply ba_ | apply bn_ | apply bd_) | exact HB.out)) hb)); clear HB; (have HB := n0_); clear n0_; ((try clear hb)); ((try clear hb2)); ((try clear hk)); ((try clear hi))
        refine hK.out _ _ ⟨((HB.out.cell (World.block_lt_of_cell? w _ hw326_0)).trans hw326_0), ((HB.out.cell (World.block_lt_of_cell? w _ hw327_0)).trans hw327_0)⟩ (fun hHeld => ?_)
        clear hK K; (refine norm_ (a' := ?_) ?_ ?_); rotate_left
        ·(show Act.put _ (some 25) _ = _); (simp only [Act.put, sia_, sz_, ss_, i64_w, i32_w]); rfl
        refine pure_ (i := 9) (N := some 26) (v := ?_) (a' := ?_) #[tt,tt,tt,tt,tt,tt,tt,tt,tt,tt] rfl rfl (any_of HT_.out (by kernel_rfl)) (fun _ _ _ h => h) (Or.inl ⟨by rfl, ?_⟩) ?_ ?_
        rotate_left
        ·intro w'; go_simp; with_reducible rfl
        rotate_left
        ·(simp only [Act.put, sia_, sz_, ss_, i64_w, i32_w]); rfl
        (refine done_ (done_of HT_.out (by kernel_rfl)) ?_); (try go_wp2); (go_roundg k1)
        case measure => have := HK1.out; omega
        case rel => exact ⟨(wrap64 (x5_1 + 1)), (by first | rfl | (simp; done) | (simp [*]; done)), H', ⟨by have := HK1.out; omega⟩, ⟨by repeat (first | (with_reducible first | exact HB.out | apply ba_ | apply bn_ | apply bd_) | exact HB.out)⟩⟩
       ·(replace c8 := Bool.eq_false_iff.mpr c8); subst c8; (have H1 : (some false) = some r := by rw [if_neg (show ¬ (false = true) by decide)] at H; exact H); clear H; (have H := H1); clear H1; (obtain rfl := Option.some.inj H); (try go_wp2); (have n0_ := A0_ (below_drew1 HB.out)); clear HB; (have HB := n0_); clear n0_; (have p326 : 0 ≤ (x5_1 : Int) := of_decide_eq_true (by first | (with_reducible assumption) | assumption)); (have q326 : x5_1 < (l0.length : Int) := of_decide_eq_true (by first | (with_reducible assumption) | assumption)); (obtain ⟨ad326, A326_0, c326_0, e326, hx326_0, hl326_0, hi326_0⟩ := at_L4 HR0.out x5_1 p326 q326); (have hw326_0 := hx326_0); (cases e326); (replace hx326_0 := (HB.out.cell (World.block_lt_of_cell? w _ hx326_0)).trans hx326_0); (have HR326_0 := A0_ hi326_0); (have HC326_0 := A0_ hl326_0); clear hi326_0 hl326_0; (replace p326 := eq_true p326); (replace q326 := eq_true q326); (have p327 : 0 ≤ (x5_1 : Int) := of_decide_eq_true (by first | (with_reducible assumption) | assumption)); (have q327 : x5_1 < (l1.length : Int) := of_decide_eq_true (by first | (with_reducible assumption) | assumption)); (obtain ⟨ad327, A327_0, c327_0, e327, hx327_0, hl327_0, hi327_0⟩ := at_L4 HR1.out x5_1 p327 q327); (have hw327_0 := hx327_0); (cases e327); (replace hx327_0 := (HB.out.cell (World.block_lt_of_cell? w _ hx327_0)).trans hx327_0); (have HR327_0 := A0_ hi327_0); (have HC327_0 := A0_ hl327_0); clear hi327_0 hl327_0; (replace p327 := eq_true p327); (replace q327 := eq_true q327)
        refine start_ (n := 10) (S := fun w' => w'.cell? (ad326.add (x5_1).toNat) = some (.slice A326_0 (rd_L4 l0 x5_1).length c326_0) ∧ w'.cell? (ad327.add (x5_1).toNat) = some (.slice A327_0 (rd_L4 l1 x5_1).length c327_0)) (ds := []) #[ff,ff,ff,ff,ff,ff,ff,ff,ff,ff] (by kernel_rfl) rfl rfl ⟨((HB.out.cell (World.block_lt_of_cell? w _ hw326_0)).trans hw326_0), ((HB.out.cell (World.block_lt_of_cell? w _ hw327_0)).trans hw327_0)⟩ (fun hHeld => ?_); refine with_tabW laws_eqCubeSS.tab6 laws_eqCubeSS.bits6 (fun HT_ HW_ => ?_)
        (generalize wr.drew = w11 at HB HR326_0 HR327_0 hx326_0 hx327_0 hHeld ⊢)
        refine pure_ (i := 0) (N := some 17) (v := ?_) (a' := ?_) #[tt,ff,ff,ff,ff,ff,ff,ff,ff,ff] rfl rfl (any_of HT_.out (by kernel_rfl)) (fun _ _ _ h => h) (Or.inl ⟨by rfl, ?_⟩) ?_ ?_
        rotate_left
        ·intro w'; go_simp; with_reducible rfl
        rotate_left
        ·(simp only [Act.put, sia_, sz_, ss_, i64_w, i32_w]); rfl
        refine pure_ (i := 1) (N := some 18) (v := ?_) (a' := ?_) #[tt,tt,ff,ff,ff,ff,ff,ff,ff,ff] rfl rfl (any_of HT_.out (by kernel_rfl)) (fun _ _ _ h => h) (Or.inl ⟨by rfl, ?_⟩) ?_ ?_
        rotate_left
        ·intro w'; go_simp; with_reducible rfl
        rotate_left
        ·(simp only [Act.put, sia_, sz_, ss_, i64_w, i32_w]); rfl
        refine pure_ (i := 2) (N := some 19) (v := ?_) (a' := ?_) #[tt,tt,tt,ff,ff,ff,ff,ff,ff,ff] rfl rfl (any_of HT_.out (by kernel_rfl)) (fun _ _ _ h => h) (Or.inl ⟨by rfl, ?_⟩) ?_ ?_
        rotate_left
        ·intro w'; go_simp; with_reducible rfl
        rotate_left
        ·(simp only [Act.put, sia_, sz_, ss_, i64_w, i32_w]); rfl
        refine pure_ (i := 4) (N := some 21) (v := ?_) (a' := ?_) #[tt,tt,tt,ff,tt,ff,ff,ff,ff,ff] rfl rfl (any_of HT_.out (by kernel_rfl)) (fun _ _ _ h => h) (Or.inl ⟨by rfl, ?_⟩) ?_ ?_
        rotate_left
        ·intro w'; go_simp; with_reducible rfl
        rotate_left
        ·(simp only [Act.put, sia_, sz_, ss_, i64_w, i32_w]); rfl
        refine pure_ (i := 5) (N := some 22) (v := ?_) (a' := ?_) #[tt,tt,tt,ff,tt,tt,ff,ff,ff,ff] rfl rfl (any_of HT_.out (by kernel_rfl)) (fun _ _ _ h => h) (Or.inl ⟨by rfl, ?_⟩) ?_ ?_
        rotate_left
        ·intro w'; go_simp; with_reducible rfl
        rotate_left
        ·(simp only [Act.put, sia_, sz_, ss_, i64_w, i32_w]); rfl
        refine pure_ (i := 6) (N := some 23) (v := ?_) (a' := ?_) #[tt,tt,tt,ff,tt,tt,tt,ff,ff,ff] rfl rfl (any_of HT_.out (by kernel_rfl)) (fun _ _ _ h => h) (Or.inl ⟨by rfl, ?_⟩) ?_ ?_
        rotate_left
        ·intro w'; go_simp; with_reducible rfl
        rotate_left
        ·(simp only [Act.put, sia_, sz_, ss_, i64_w, i32_w]); rfl
        refine take_ (i := 3) (N := some 20) (v := ?_) (a' := ?_) #[tt,tt,tt,tt,tt,tt,tt,ff,ff,ff] rfl rfl (take_ofW HT_.out HW_.out (by kernel_rfl)) (fun _ _ _ h => h) (Or.inl ⟨by rfl, ?_⟩) hHeld ?_ ?_
        rotate_left
        ·(rintro w' ⟨s0, s1⟩); go_simp; with_reducible rfl
        rotate_left
        ·(simp only [Act.put, sia_, sz_, ss_, i64_w, i32_w]); rfl
        refine take_ (i := 7) (N := some 24) (v := ?_) (a' := ?_) #[tt,tt,tt,tt,tt,tt,tt,tt,ff,ff] rfl rfl (take_ofW HT_.out HW_.out (by kernel_rfl)) (fun _ _ _ h => h) (Or.inl ⟨by rfl, ?_⟩) hHeld ?_ ?_
        rotate_left
        ·(rintro w' ⟨s0, s1⟩); go_simp; with_reducible rfl
        rotate_left
        ·(simp only [Act.put, sia_, sz_, ss_, i64_w, i32_w]); rfl
        refine one_ (i := 8) (N := some 25) #[tt,tt,tt,tt,tt,tt,tt,tt,tt,ff] rfl rfl (one_of HT_.out (by kernel_rfl)) (by decide) (fun K hK => ?_)
        (refine goes_ Try.func18 (by kernel_rfl) rfl #[.slice A326_0 (rd_L4 l0 x5_1).length c326_0, .slice A327_0 (rd_L4 l1 x5_1).length c327_0] (by rfl) rfl rfl (by (try simp only [List.map_toArray, List.map_cons, List.map_nil]); first | done | rfl | (simp only [List.length_drop, List.length_take]; rfl)) ?_); (with_reducible refine (laws_eqCubeS.calls k1 _ _ (rd_L4 l0 x5_1) _ _ (rd_L4 l1 x5_1) false _ ?side1 ?side2 ?side3 ?side4 A7.out).mono ?_); ((case side1 => repeat (first | exact (Kd.C_below HR326_0.out HB.out) | (with_reducible refine Kd.C_alloc ?_ _) | (with_reducible refine Kd.C_drewN ?_ _) | (with_reducible refine Kd.C_drew ?_)))); ((case side2 => exact HC326_0.out)); ((case side3 => repeat (first | exact (Kd.C_below HR327_0.out HB.out) | (with_reducible refine Kd.C_alloc ?_ _) | (with_reducible refine Kd.C_drewN ?_ _) | (with_reducible refine Kd.C_drew ?_)))); ((case side4 => exact HC327_0.out)); (rintro e w12 ⟨rfl, hb⟩); (refine ⟨_, rfl, ?_⟩); (have n0_ := A0_ (below_step (by repeat (first | (with_reducible first | exact HB.out | apply ba_ | apply bn_ | apply bd_) | exact HB.out)) hb)); clear HB; (have HB := n0_); clear n0_; ((try clear hb)); ((try clear hb2)); ((try clear hk)); ((try clear hi))
        refine hK.out _ _ ⟨((HB.out.cell (World.block_lt_of_cell? w _ hw326_0)).trans hw326_0), ((HB.out.cell (World.block_lt_of_cell? w _ hw327_0)).trans hw327_0)⟩ (fun hHeld => ?_)
        clear hK K; (refine norm_ (a' := ?_) ?_ ?_); rotate_left
        ·(show Act.put _ (some 25) _ = _); (simp only [Act.put, sia_, sz_, ss_, i64_w, i32_w]); rfl
        refine pure_ (i := 9) (N := some 26) (v := ?_) (a' := ?_) #[tt,tt,tt,tt,tt,tt,tt,tt,tt,tt] rfl rfl (any_of HT_.out (by kernel_rfl)) (fun _ _ _ h => h) (Or.inl ⟨by rfl, ?_⟩) ?_ ?_
        rotate_left
        ·intro w'; go_simp; with_reducible rfl
        rotate_left
        ·(simp only [Act.put, sia_, sz_, ss_, i64_w, i32_w]); rfl
        (refine done_ (done_of HT_.out (by kernel_rfl)) ?_); (try go_wp2); go_ret; (exact ⟨by first | rfl | (simp [errW_none, errW_some] <;> rfl) | (simp [*, errW_none, errW_some] <;> rfl), by repeat (first | (with_reducible first | exact HB.out | apply ba_ | apply bn_ | apply bd_) | exact HB.out)⟩)
      ·(rw [if_neg c6] at H); (exact absurd H (by simp))
     ·(rw [if_neg c5] at H); (exact absurd H (by simp))
    ·(rw [if_neg c4] at H); (have c4b0 : decide (x5_1 < (l0.length : Int)) = false := decide_eq_false c4); clear c4; (obtain rfl := Option.some.inj H); go_wp2; go_ret; (exact ⟨by first | rfl | (simp [errW_none, errW_some] <;> rfl) | (simp [*, errW_none, errW_some] <;> rfl), by repeat (first | (with_reducible first | exact HB.out | apply ba_ | apply bn_ | apply bd_) | exact HB.out)⟩)
 ·(rw [if_neg c3] at H); (have c3b0 : ((l0.length : Int) == (l1.length : Int)) = false := beq_eq_false_iff_ne.mpr c3); (have c3b1 : ((l0.length : Int) != (l1.length : Int)) = true := bne_iff_ne.mpr c3); (have c3b2 : (l0.length == l1.length) = false := by first | simpa using c3 | (simp at c3 ⊢; omega)); (obtain rfl := Option.some.inj H); (go_enter Try.func16, Try.ntmps16); go_wp2; go_ret; (exact ⟨by first | rfl | (simp [errW_none, errW_some] <;> rfl) | (simp [*, errW_none, errW_some] <;> rfl), by repeat (first | (with_reducible first | exact HB.out | apply ba_ | apply bn_ | apply bd_) | exact HB.out)⟩)
end Go.Proofs.Ytlbckkagjekhnaa.A

namespace Go.Proofs.Ytlbckkagjekhnaa.A
open Go.RowKit Go.Proofs.YtlbckkagjekhnaaW.PrintWords Go.Proofs.YtlbckkagjekhnaaW.PrintLast Go.Proofs.YtlbckkagjekhnaaW.PrintMore
attribute [local go_sem] max2_int min2_int max_two min_two max_three min_three max_four min_four   -- for this text's walks alone
set_option linter.unusedVariables false
set_option linter.unusedSimpArgs false
def laws_eqAssembly.f (k : Nat) (l0_0 : List (List (S69))) (l1_0 : List (List (S69))) : Option (Bool) := (laws_eqCubeSS.f k l0_0 l1_0).bind fun t331 => (if t331 = true then (some true) else (some false))
set_option maxHeartbeats 8000000 in
set_option maxRecDepth 100000 in
theorem laws_eqAssembly.calls (k : Nat) (A0_0 : Option Addr) (c0_0 : Nat) (l0_0 : List (List (S69))) (A1_0 : Option Addr) (c1_0 : Nat) (l1_0 : List (List (S69))) (r : Bool) (w : World) (hr0_0 : Kd.C (Kd.slice 69 k69) w A0_0 l0_0.length l0_0) (hc0_0 : l0_0.length ≤ c0_0) (hr1_0 : Kd.C (Kd.slice 69 k69) w A1_0 l1_0.length l1_0) (hc1_0 : l1_0.length ≤ c1_0) (h : laws_eqAssembly.f k l0_0 l1_0 = some r) :
    Calls Try.prog 17 #[.agg #[.slice A0_0 l0_0.length c0_0], .agg #[.slice A1_0 l1_0.length c1_0]] w fun e w' => e = .returned (.bool r) ∧ Below w.heap.size w w' := by
 (have hu32 := Try.underlying32); (have HR0_0 := A0_ hr0_0); (have HC0_0 := A0_ hc0_0); clear hr0_0 hc0_0; (have HR1_0 := A0_ hr1_0); (have HC1_0 := A0_ hc1_0); clear hr1_0 hc1_0; (have HB := A0_ (Below.refl w.heap.size w))
 have H : ((laws_eqCubeSS.f k l0_0 l1_0).bind fun t331 => (if t331 = true then (some true) else (some false))) = some r := h
 clear h; (replace H := Option.bind_eq_some_iff.mp H); (obtain ⟨t331, A30, H⟩ := H); (try dsimp only at H); (have A3 := A0_ A30); clear A30; (have H0_ := A0_ H); clear H; (go_enter Try.func17, Try.ntmps17); (go_wp2_with (first | ((with_reducible refine gate_dst (N := 2) rfl ?_); refine box_event ?hg (N := 2) ?hd (cs := #[.slice A0_0 l0_0.length c0_0]) (t := 32) ?hr ?_; (case hd => rfl); (case hg => rfl); (case hr => first | (go_simp; done) | (go_simp; rfl)); intro gb329 hg w4 hbox hb; have n0_ := A0_ (below_step (by repeat (first | (with_reducible first | exact HB.out | apply ba_ | apply bn_ | apply bd_) | exact HB.out)) hb); have n1_ := A0_ (hbox); have n2_ := A0_ ((by rw [hg]; exact (below_size (by repeat (first | (with_reducible first | exact HB.out | apply ba_ | apply bn_ | apply bd_) | exact HB.out))) : w.heap.size ≤ gb329)); have n3_ := A0_ ((by rw [hg]; exact (below_size (by repeat (first | (with_reducible first | exact HB.out | apply ba_ | apply bn_ | apply bd_) | exact HB.out))) : w.heap.size ≤ gb329)); clear HB; have HB := n0_; have BK329 := n1_; have GW329 := n2_; have GE329 := n3_; clear n0_ n1_ n2_ n3_; clear hb hbox hg) | ((with_reducible refine gate_dst (N := 3) rfl ?_); refine box_event ?hg (N := 3) ?hd (cs := #[.slice A1_0 l1_0.length c1_0]) (t := 32) ?hr ?_; (case hd => rfl); (case hg => rfl); (case hr => first | (go_simp; done) | (go_simp; rfl)); intro gb330 hg w5 hbox hb; have n0_ := A0_ (blk_below (g := gb329) (o := .cells #[.slice A0_0 l0_0.length c0_0] 32 (0, 0)) (by (with_reducible repeat (first | apply gn_ | apply gd_ | apply ga_)); exact BK329.out) hb); have n1_ := A0_ (below_step (by repeat (first | (with_reducible first | exact HB.out | apply ba_ | apply bn_ | apply bd_ | refine below_set ?_ GE329.out) | exact HB.out)) hb); have n2_ := A0_ (hbox); have n3_ := A0_ ((by rw [hg]; exact (below_size (by repeat (first | (with_reducible first | exact HB.out | apply ba_ | apply bn_ | apply bd_ | refine below_set ?_ GE329.out) | exact HB.out))) : w.heap.size ≤ gb330)); have n4_ := A0_ ((by rw [hg]; exact (below_size (by repeat (first | (with_reducible first | exact HB.out | apply ba_ | apply bn_ | apply bd_ | refine below_set ?_ GE329.out) | exact HB.out))) : w.heap.size ≤ gb330)); have n5_ := A0_ ((by rw [hg]; exact Nat.ne_of_lt (blk_lt (g := gb329) (o := .cells #[.slice A0_0 l0_0.length c0_0] 32 (0, 0)) (by (with_reducible repeat (first | apply gn_ | apply gd_ | apply ga_)); exact BK329.out)) : gb329 ≠ gb330)); have n6_ := A0_ ((by rw [hg]; exact Nat.ne_of_gt (blk_lt (g := gb329) (o := .cells #[.slice A0_0 l0_0.length c0_0] 32 (0, 0)) (by (with_reducible repeat (first | apply gn_ | apply gd_ | apply ga_)); exact BK329.out)) : gb330 ≠ gb329)); clear BK329; clear HB; have BK329 := n0_; have HB := n1_; have BK330 := n2_; have GW330 := n3_; have GE330 := n4_; have NB329_330 := n5_; have NB330_329 := n6_; clear n0_ n1_ n2_ n3_ n4_ n5_ n6_; clear hb hbox hg; have hnb6 := NB329_330.out; have hnc6 := NB330_329.out; have hcz7_0 : w5.cell? ⟨gb329, 0, none⟩ = some (.slice A0_0 l0_0.length c0_0) := (blk_cell BK329.out 0).trans rfl; have hfz7_0 := blk_frozen BK329.out 0; have hcz8_0 : w5.cell? ⟨gb330, 0, none⟩ = some (.slice A1_0 l1_0.length c1_0) := (blk_cell BK330.out 0).trans rfl; have hfz8_0 := blk_frozen BK330.out 0) | ((with_reducible refine gate_callee (f := 16) rfl ?_); refine goesL_ (some 9) rfl rfl Try.func16 (by kernel_rfl) rfl #[.slice A0_0 l0_0.length c0_0, .slice A1_0 l1_0.length c1_0] rfl (by (try simp only [List.map_toArray, List.map_cons, List.map_nil]); first | done | rfl | (simp only [List.length_drop, List.length_take]; rfl)) ?_; (with_reducible refine (laws_eqCubeSS.calls k _ _ l0_0 _ _ l1_0 t331 _ ?side1 ?side2 ?side3 ?side4 A3.out).mono ?_); (case side1 => repeat (first | exact (Kd.C_below HR0_0.out HB.out) | (with_reducible refine Kd.C_alloc ?_ _) | (with_reducible refine Kd.C_drewN ?_ _) | (with_reducible refine Kd.C_drew ?_))); (case side2 => exact HC0_0.out); (case side3 => repeat (first | exact (Kd.C_below HR1_0.out HB.out) | (with_reducible refine Kd.C_alloc ?_ _) | (with_reducible refine Kd.C_drewN ?_ _) | (with_reducible refine Kd.C_drew ?_))); (case side4 => exact HC1_0.out); rintro e w9 ⟨rfl, hb⟩; refine ⟨_, rfl, ?_⟩; have n0_ := A0_ (blk_below (g := gb329) (o := .cells #[.slice A0_0 l0_0.length c0_0] 32 (0, 0)) (by (with_reducible repeat (first | apply gn_ | apply gd_ | apply ga_)); exact BK329.out) hb); have n1_ := A0_ (blk_below (g := gb330) (o := .cells #[.slice A1_0 l1_0.length c1_0] 32 (0, 0)) (by (with_reducible repeat (first | apply gn_ | apply gd_ | apply ga_)); exact BK330.out) hb); have n2_ := A0_ (below_step (by repeat (first | (with_reducible first | exact HB.out | apply ba_ | apply bn_ | apply bd_ | refine below_set ?_ GE329.out | refine below_set ?_ GE330.out) | exact HB.out)) hb); clear BK329; clear BK330; clear HB; have BK329 := n0_; have BK330 := n1_; have HB := n2_; clear n0_ n1_ n2_; (try clear hb); (try clear hb2); (try clear hk); (try clear hi); refine Stop0.out ?_))); (refine Stop0.mk ?_); (have H := H0_.out); clear H0_; (by_cases c10 : t331 = true)
 ·subst c10; (have H1 := H); (rw [if_pos rfl] at H1); clear H; (have H := H1); clear H1; (obtain rfl := Option.some.inj H); go_wp2; go_ret; (exact ⟨by first | rfl | (simp [errW_none, errW_some] <;> rfl) | (simp [*, errW_none, errW_some] <;> rfl), by repeat (first | (with_reducible first | exact HB.out | apply ba_ | apply bn_ | apply bd_ | refine below_set ?_ GE329.out | refine below_set ?_ GE330.out) | exact HB.out)⟩)
 ·(replace c10 := Bool.eq_false_iff.mpr c10); subst c10; (have H1 : (some false) = some r := by rw [if_neg (show ¬ (false = true) by decide)] at H; exact H); clear H; (have H := H1); clear H1; (obtain rfl := Option.some.inj H); go_wp2; go_ret; (exact ⟨by first | rfl | (simp [errW_none, errW_some] <;> rfl) | (simp [*, errW_none, errW_some] <;> rfl), by repeat (first | (with_reducible first | exact HB.out | apply ba_ | apply bn_ | apply bd_ | refine below_set ?_ GE329.out | refine below_set ?_ GE330.out) | exact HB.out)⟩)
end Go.Proofs.Ytlbckkagjekhnaa.A

/- What the burrs' laws do with assemblies: sizes, copies, comparisons. No program in sight. -/
namespace Go.Proofs.Ytlbckkagjekhnaa.A
open Go.RowKit Go.Proofs.YtlbckkagjekhnaaW.PrintWords Go.Proofs.YtlbckkagjekhnaaW.PrintLast Go.Proofs.YtlbckkagjekhnaaW.PrintMore
set_option linter.unusedVariables false
set_option linter.unusedSimpArgs false
abbrev Lb := S71
structure S24 where
  f0 : List (List Lb)
def k24 : Kd S24 := Kd.iso (Kd.slice 25 (Kd.slice 71 k71)) (fun x : S24 => x.f0)
theorem k24_open {w : World} {x : S24} {cs : List Value} (h : k24.K w x cs) : ∃ A0 c0, cs = [.slice A0 x.f0.length c0] ∧ x.f0.length ≤ c0 ∧ (Kd.slice 71 k71).C w A0 x.f0.length x.f0 := by
  obtain ⟨A0, c0, rfl, l0, g0⟩ := h
  exact ⟨A0, c0, rfl, l0, g0⟩
def toC (c : Lb) : Cb := ⟨c.f0, c.f1, c.f2⟩
def toP (l : List (List Lb)) : List (List Cb) := l.map fun p => p.map toC
def szV {α : Type} : List (List α) → Int → Int
  | [], a => a
  | r :: rs, a => if a - (r.length : Int) < 0 then -1 else szV rs (a - (r.length : Int))
def szL {α : Type} (rows : List (List α)) (a : Int) : Int := if a - (rows.length : Int) < 0 then -1 else szV rows (a - (rows.length : Int))
def tot2 {α : Type} (rows : List (List α)) : Int := ((rows.map List.length).sum : Nat)
theorem tot2_cons {α : Type} (r : List α) (rs : List (List α)) : tot2 (r :: rs) = (r.length : Int) + tot2 rs := by unfold tot2; simp
theorem szV_eq {α : Type} : ∀ (rows : List (List α)) (a : Int), ¬ szV rows a < 0 → szV rows a = a - tot2 rows ∧ ∀ r ∈ rows, (r.length : Int) ≤ a
  | [], a, h => ⟨by simp [szV, tot2], fun r hr => by simp at hr⟩
  | x :: rs, a, h => by
    unfold szV at h ⊢
    rw [tot2_cons]
    by_cases c : a - (x.length : Int) < 0
    · rw [if_pos c] at h; omega
    · rw [if_neg c] at h ⊢
      obtain ⟨h1, h2⟩ := szV_eq rs _ h
      refine ⟨by omega, fun r hr => ?_⟩
      rcases List.mem_cons.1 hr with rfl | hr
      · omega
      · have := h2 r hr; omega
/-- The sizes of an input that the law looks at. -/
structure SzOk {α : Type} (rows : List (List α)) : Prop where
  len : rows.length ≤ 1048576
  each : ∀ r ∈ rows, r.length ≤ 1048576
  tot : tot2 rows ≤ 1048576
theorem szL_eq {α : Type} (rows : List (List α)) (a : Int) (ha : a ≤ 1048576) (h : ¬ szL rows a < 0) : szL rows a = a - (rows.length : Int) - tot2 rows ∧ SzOk rows := by
  unfold szL at h ⊢
  by_cases c : a - (rows.length : Int) < 0
  · rw [if_pos c] at h; omega
  · rw [if_neg c] at h ⊢
    obtain ⟨h1, h2⟩ := szV_eq rows _ h
    refine ⟨h1, ⟨by omega, fun r hr => by have := h2 r hr; omega, ?_⟩⟩
    omega
theorem szCubeSS_ev (rows : List (List Lb)) (a : Int) (ha : 0 ≤ a ∧ a ≤ 1048576) (h1 : rows.length ≤ maxLen) (h2 : ∀ r ∈ rows, r.length ≤ maxLen) : Ev (fun k => laws_szCubeSS.f k rows a) (szL rows a) := by
  unfold maxLen at h1 h2
  unfold laws_szCubeSS.f szL
  have e : wrap64 (a - (rows.length : Int)) = a - (rows.length : Int) := by unfold wrap64; omega
  rw [e]
  by_cases c : a - (rows.length : Int) < 0
  · simp only [c, if_true]
    exact Ev.now _
  · simp only [c, if_false]
    have := ev_listI rows (fun (s : Int) (_ : Nat) => 0 ≤ s ∧ s ≤ 1048576) (fun s i k => laws_szCubeSS.l0 k rows s i) (fun s l => szV l s) (fun s hi => ?_) (fun s j hj hi ih => ?_) rows.length 0 (a - (rows.length : Int)) (by omega) ⟨by omega, by omega⟩
    · simpa using this
    · exact Ev.step (f := fun _ => some s) (fun k => by simp only [laws_szCubeSS.l0]; rw [if_neg (by omega)]) (Ev.now _)
    · have hg : rd_L2 rows (j : Int) = rows[j] := by unfold rd_L2; exact getD_nat rows _ j hj
      have hr := h2 rows[j] (List.getElem_mem hj)
      have ew : wrap64 (s - (rows[j].length : Int)) = s - (rows[j].length : Int) := by unfold wrap64; omega
      refine Ev.succ ?_
      simp only [laws_szCubeSS.l0, show (j : Int) < (rows.length : Int) from by omega, show (0 : Int) ≤ (j : Int) from by omega, if_true, hg, laws_szCubeS.f, ew, wrap_succ j (by omega)]
      rw [show szV (rows[j] :: rows.drop (j + 1)) s = if s - (rows[j].length : Int) < 0 then -1 else szV (rows.drop (j + 1)) (s - (rows[j].length : Int)) from rfl]
      by_cases c2 : s - (rows[j].length : Int) < 0
      · simp only [c2, if_true, Option.bind_some, show ((-1 : Int) < 0) from by decide]
        exact Ev.now _
      · simp only [c2, if_false, Option.bind_some]
        exact ih _ ⟨by omega, by omega⟩
theorem szAssembly_ev (rows : List (List Lb)) (a : Int) (ha : 0 ≤ a ∧ a ≤ 1048576) (h1 : rows.length ≤ maxLen) (h2 : ∀ r ∈ rows, r.length ≤ maxLen) : Ev (fun k => laws_szAssembly.f k rows a) (if szL rows a < 0 then -1 else szL rows a) := by
  unfold laws_szAssembly.f
  refine Ev.bind (szCubeSS_ev rows a ha h1 h2) ?_
  by_cases c : szL rows a < 0
  · simp only [c, if_true]; exact Ev.now _
  · simp only [c, if_false]; exact Ev.now _
theorem toCubeS_ev (l : List Lb) (h : l.length ≤ 1048576) : Ev (fun k => laws_toCubeS.f k l) (l.map toC) := by
  unfold laws_toCubeS.f
  simp only [Int.toNat_natCast, show (0 : Int) ≤ l.length from by omega, show l.length ≤ 11728124029610 from by omega, if_true]
  refine ev_at l.length (fun s j => s = (l.take j).map toC ++ List.replicate (l.length - j) z69) (l.map toC) (fun s i k => laws_toCubeS.l0 k l s i) (fun s hi => ?_) (fun s j hj hi => ?_) _ (by simp)
  · refine Ev.step (f := fun _ => some s) (fun k => by simp only [laws_toCubeS.l0]; rw [if_neg (by omega)]) ?_
    rw [hi]
    simpa using Ev.now _
  · have hl : s.length = l.length := by rw [hi]; simp; omega
    have hg : rd_T71 l (j : Int) = l[j] := by unfold rd_T71; exact getD_nat l _ j hj
    refine ⟨s.set j (toC l[j]), by rw [hi]; exact set_fill toC _ l j hj, fun h2 => Ev.step (fun k => ?_) h2⟩
    simp only [laws_toCubeS.l0, laws_toCube.f, Option.bind_some, hg]
    rw [if_pos (by omega), if_pos (by omega), if_pos (by omega), wrap_succ j (by omega), Int.toNat_natCast]
    rfl
theorem toCubeSS_ev (l : List (List Lb)) (h : SzOk l) : Ev (fun k => laws_toCubeSS.f k l) (toP l) := by
  have h1 := h.len
  unfold laws_toCubeSS.f toP
  simp only [Int.toNat_natCast, show (0 : Int) ≤ l.length from by omega, show l.length ≤ 11728124029610 from by omega, if_true]
  refine ev_at l.length (fun s j => s = (l.take j).map (fun p => p.map toC) ++ List.replicate (l.length - j) []) (l.map fun p => p.map toC) (fun s i k => laws_toCubeSS.l0 k l s i) (fun s hi => ?_) (fun s j hj hi => ?_) (List.replicate l.length []) (by simp)
  · refine Ev.step (f := fun _ => some s) (fun k => by simp only [laws_toCubeSS.l0]; rw [if_neg (by omega)]) ?_
    rw [hi]
    simpa using Ev.now _
  · have hl : s.length = l.length := by rw [hi]; simp; omega
    have hg : rd_L2 l (j : Int) = l[j] := by unfold rd_L2; exact getD_nat l _ j hj
    refine ⟨s.set j (l[j].map toC), by rw [hi]; exact set_fill (fun p => p.map toC) _ l j hj, fun h2 => Ev.succ ?_⟩
    simp only [laws_toCubeSS.l0, show (j : Int) < (l.length : Int) from by omega, show (0 : Int) ≤ (j : Int) from by omega, show (j : Int) < (s.length : Int) from by omega, if_true, hg, wrap_succ j (by omega), Int.toNat_natCast]
    exact Ev.bind (toCubeS_ev l[j] (h.each _ (List.getElem_mem hj))) h2
theorem toAssembly_ev (l : List (List Lb)) (h : SzOk l) : Ev (fun k => laws_toAssembly.f k l) (toP l) := by
  unfold laws_toAssembly.f
  exact Ev.bind (toCubeSS_ev l h) (Ev.now _)
theorem eqCubeS_ev (l : List Cb) (h : l.length ≤ 1048576) : Ev (fun k => laws_eqCubeS.f k l l) true := by
  unfold laws_eqCubeS.f
  simp only [if_true]
  refine ev_at l.length (fun (_ : Unit) _ => True) true (fun _ i k => laws_eqCubeS.l0 k l l i) (fun s hi => ?_) (fun s j hj hi => ?_) () trivial
  · exact Ev.step (f := fun _ => some true) (fun k => by simp only [laws_eqCubeS.l0]; rw [if_neg (by omega)]) (Ev.now _)
  · refine ⟨(), trivial, fun h2 => Ev.step (fun k => ?_) h2⟩
    simp only [laws_eqCubeS.l0, laws_eqCube.f, if_true, Option.bind_some]
    rw [if_pos (by omega), if_pos (by omega), if_pos (by omega), wrap_succ j (by omega)]
theorem eqCubeSS_ev (l : List (List Cb)) (h : SzOk l) : Ev (fun k => laws_eqCubeSS.f k l l) true := by
  have h1 := h.len
  unfold laws_eqCubeSS.f
  simp only [if_true]
  refine ev_at l.length (fun (_ : Unit) _ => True) true (fun _ i k => laws_eqCubeSS.l0 k l l i) (fun s hi => ?_) (fun s j hj hi => ?_) () trivial
  · exact Ev.step (f := fun _ => some true) (fun k => by simp only [laws_eqCubeSS.l0]; rw [if_neg (by omega)]) (Ev.now _)
  · have hg : rd_L4 l (j : Int) = l[j] := by unfold rd_L4; exact getD_nat l _ j hj
    refine ⟨(), trivial, fun h2 => Ev.succ ?_⟩
    simp only [laws_eqCubeSS.l0, show (j : Int) < (l.length : Int) from by omega, show (0 : Int) ≤ (j : Int) from by omega, if_true, hg, wrap_succ j (by omega)]
    refine Ev.bind (eqCubeS_ev l[j] (h.each _ (List.getElem_mem hj))) ?_
    simpa using h2
theorem eqAssembly_ev (l : List (List Cb)) (h : SzOk l) : Ev (fun k => laws_eqAssembly.f k l l) true := by
  unfold laws_eqAssembly.f
  exact Ev.bind (eqCubeSS_ev l h) (by simpa using Ev.now true)
theorem toP_ok {l : List (List Lb)} (h : SzOk l) : SzOk (toP l) := by
  refine ⟨by unfold toP; rw [List.length_map]; exact h.len, fun r hr => ?_, ?_⟩
  · unfold toP at hr
    obtain ⟨p, hp, rfl⟩ := List.mem_map.1 hr
    rw [List.length_map]
    exact h.each p hp
  · have : tot2 (toP l) = tot2 l := by
      unfold tot2 toP
      rw [List.map_map]
      have : (List.length ∘ fun p : List Lb => List.map toC p) = (List.length : List Lb → Nat) := by funext p; simp
      rw [this]
    rw [this]
    exact h.tot
end Go.Proofs.Ytlbckkagjekhnaa.A

/- Both StatesOf: what they answer on any assembly (contracts without premises on small functions). -/
namespace Go.Proofs.Ytlbckkagjekhnaa.A
open Go.RowKit Go.Proofs.YtlbckkagjekhnaaW.PrintWords Go.Proofs.YtlbckkagjekhnaaW.PrintLast Go.Proofs.YtlbckkagjekhnaaW.PrintMore
set_option linter.unusedVariables false
set_option linter.unusedSimpArgs false
abbrev asmP (parts : List (List Cb)) : Bool := isAsmP solP conP parts
theorem sol_at {parts : List (List Cb)} (hz : SzOk parts) : ∀ p ∈ parts, ∃ K, impl_isSolid.f K p = some (solP p) := fun p hp => (isolid_ev p (hz.each p hp)).rounds
theorem con_at {parts : List (List Cb)} (hz : SzOk parts) : ∀ p ∈ parts, solP p = true → ∃ K, impl_connectedCubes.f K p = some (conP p) := fun p hp hs => (icon_ev p (sol_in p hs).1 (hz.each p hp) (sol_in p hs).2.2).rounds
/-- What an assembly is. -/
theorem asm_of {parts : List (List Cb)} (h : asmP parts = true) : (2 ≤ parts.length ∧ parts.length ≤ 4) ∧ ∀ p ∈ parts, (1 ≤ p.length ∧ p.length ≤ 24) ∧ ∀ c ∈ p, inCb c 0 7 = true := by
  unfold asmP isAsmP at h
  rw [Bool.and_eq_true, Bool.and_eq_true, Bool.and_eq_true, decide_eq_true_eq, decide_eq_true_eq, List.all_eq_true] at h
  refine ⟨h.1, fun p hp => ?_⟩
  obtain ⟨h1, _, h3⟩ := part_ok _ _ p (h.2.1 p hp)
  exact ⟨⟨(sol_in p h1).1, (sol_in p h1).2.1⟩, h3⟩
theorem fr_at {w : World} {Ap : Option Addr} {parts : List (List Cb)} (hC : kP.C w Ap parts.length parts) (hz : SzOk parts) (h : asmP parts = true) : FrOk w Ap parts := ⟨hC, by have := (asm_of h).1; omega, hz.each⟩
theorem smoves_at {parts : List (List Cb)} (hz : SzOk parts) (h : asmP parts = true) : ∀ o : List Cb, o.length = parts.length → ∃ K, spec_l27Moves.f K parts o = some (movesP parts o) := fun o ho =>
  (smoves_ev parts o ho (by have := (asm_of h).1; omega) (by have := (asm_of h).1; omega) hz.each (fun p hp => ((asm_of h).2 p hp).2)).rounds
theorem sIsAsm_calls (Ap : Option Addr) (cp : Nat) (parts : List (List Cb)) (w : World) (hC : kP.C w Ap parts.length parts) (hcp : parts.length ≤ cp) (hz : SzOk parts) :
    Calls Try.prog 54 #[.agg #[.slice Ap parts.length cp]] w fun e w' => e = .returned (.bool (asmP parts)) ∧ Below w.heap.size w w' :=
  spec_IsAssembly.calls 0 Ap cp parts (asmP parts) w hC hcp (by unfold spec_IsAssembly.f; rw [if_pos ⟨hz.len, hz.each⟩, asm_same])
theorem iIsAsm_calls (w0 : World) (Ap : Option Addr) (cp : Nat) (parts : List (List Cb)) (hC : kP.C w0 Ap parts.length parts) (hz : SzOk parts) (rest : List Res) (w : World) (hs : Sp w0 rest w) :
    Calls Try.prog 56 #[.agg #[.slice Ap parts.length cp]] w fun e w' => e = .returned (.bool (asmP parts)) ∧ Sp w0 rest w' := isAssembly_calls w0 Ap cp parts hC hz.each solP conP (sol_at hz) (con_at hz) rest w hs
end Go.Proofs.Ytlbckkagjekhnaa.A

/- impl.FindExit, impl.LevelOf, walked. -/
namespace Go.Proofs.Ytlbckkagjekhnaa.A
open Go.RowKit Go.Proofs.YtlbckkagjekhnaaW.PrintWords Go.Proofs.YtlbckkagjekhnaaW.PrintLast Go.Proofs.YtlbckkagjekhnaaW.PrintMore
set_option linter.unusedVariables false
set_option linter.unusedSimpArgs false
def exitX (parts : List (List Cb)) : Option (List Nd × Int) := searchX parts (exB parts true) 1201 [(zerosC parts.length, -1, 0)] 0
/-- The way to an exit, the part and direction that are free there, and the code. -/
def exitR (parts : List (List Cb)) : List Int × Int × Int :=
  if asmP parts = true then (match exitX parts with
    | none => ([], 0, 3)
    | some (S, i) => if i < 0 then ([], 0, 4) else (wayN S i.toNat, (freeP parts (ndAt S i.toNat).1).getD 0 0, 0)) else ([], 0, 1)
theorem visit_wf {o : List Cb} {k : Nat} {S S' : List Nd} {m : Int} (h : visitP o k S m = some S') (hw : WfN S) (hk : k < S.length) : WfN S' := by
  unfold visitP at h
  split at h
  · injection h with h; subst h; exact hw
  · split at h
    · injection h with h; subst h; exact hw
    · split at h
      · cases h
      · injection h with h
        subst h
        intro j hj
        rw [List.length_append, List.length_singleton] at hj
        by_cases c : j < S.length
        · rw [ndAt_app c]; exact hw j c
        · have : j = S.length := by omega
          subst this
          rw [ndAt_new]
          show (k : Int) < _
          omega
theorem spread_wf {o : List Cb} {k : Nat} : ∀ (ms : List Int) {S S' : List Nd}, ms.foldlM (visitP o k) S = some S' → WfN S → k < S.length → WfN S'
  | [], S, S', h, hw, hk => by
    have : S = S' := Option.some.inj h
    subst this
    exact hw
  | m :: ms, S, S', h, hw, hk => by
    rw [List.foldlM_cons] at h
    obtain ⟨T, h1, h2⟩ := Option.bind_eq_some_iff.1 h
    exact spread_wf ms h2 (visit_wf h1 hw hk) (Nat.lt_of_lt_of_le hk (visit_le h1))
theorem Sp.intCell0 {w0 w : World} {rs : List Res} {i e base n c : Nat} {ad : Addr} {xs : List Int} (h : Sp w0 rs w) (hi : rs[i]? = some (Res.row kI e base (.slice (some ad) n c) xs)) (hn : 0 < n) : w.cell? ad = some (.int .i64 (xs.getD 0 0)) := by
  have := Sp.intCell h hi 0 hn
  rw [Addr.add_zero'] at this
  exact this
def fexF.T7 : Bool × List (List Nat × List Nat) := (true, [([], []), ([0], [0]), ([1], [1]), ([2], [2]), ([], []), ([4], [4]), ([5], [5]), ([6], [6]), ([], []), ([7, 8], [7, 8]), ([9], [9]), ([10], [10]), ([3, 11], [3, 11]), ([12, 12, 0, 1, 2, 3, 4, 5, 6, 7, 8, 9, 10, 11, 12], [12])])
def fexF.B7 : List Nat := [0, 1, 3, 7, 0, 16, 48, 112, 0, 496, 1008, 2032, 4095, 8191]
theorem fexF.tab7 : rtab .any (opsOf Try.f33 7) = fexF.T7 := by kernel_rfl
theorem fexF.bits7 : waitsOk fexF.T7.2 fexF.B7 = true := by kernel_rfl
def fexF.T9 : Bool × List (List Nat × List Nat) := (true, [([], []), ([], []), ([0, 1], [0, 1]), ([], []), ([3], [3]), ([4], [4]), ([2, 2, 0, 1, 2], [2]), ([5, 6, 0, 1, 2, 3, 4, 5, 6], [5]), ([7, 0, 1, 2, 3, 4, 5, 6, 7], [])])
def fexF.B9 : List Nat := [0, 0, 3, 0, 8, 24, 7, 127, 255]
theorem fexF.tab9 : rtab .any (opsOf Try.f33 9) = fexF.T9 := by kernel_rfl
theorem fexF.bits9 : waitsOk fexF.T9.2 fexF.B9 = true := by kernel_rfl
set_option maxHeartbeats 8000000 in
set_option maxRecDepth 100000 in
theorem findExit_calls (Ap : Option Addr) (cp : Nat) (parts : List (List Cb)) (w : World) (hC : kP.C w Ap parts.length parts) (hz : SzOk parts) :
    Calls Try.prog 33 #[.agg #[.slice Ap parts.length cp]] w fun e w' => ∃ v_ : Value, e = .returned (.tuple #[v_, .int .i64 (exitR parts).2.1, .int .i64 (exitR parts).2.2]) ∧ kI.R 2 w' w.heap.size (fun _ => True) v_ (exitR parts).1 ∧ Below w.heap.size w w' := by
  have hu32 := Try.underlying32
  have hu104 := Try.underlying104
  have HS := A0_ (Sp.start w)
  have hia := fun rs w2 (hs : Sp w rs w2) => iIsAsm_calls w Ap cp parts hC hz rs w2 hs
  cases has : asmP parts with
  | false =>
    rw [has] at hia
    have HIA := A0_ hia
    have HST := A0_ (show exitR parts = ([], 0, 1) by unfold exitR; rw [has, if_neg (by simp)])
    clear has hia hC hz
    rw [HST.out]
    go_enter Try.func33, Try.ntmps33
    go_wp2_with (first
      | ((with_reducible refine gate_dst (N := 1) rfl ?_); go_loud (refine box_event ?hg (N := 1) ?hd (cs := #[.slice Ap parts.length cp]) (t := 32) ?hr ?_; (case hd => rfl); (case hg => rfl); (case hr => first | (go_simp; done) | (go_simp; rfl)); intro ga hgb_ wb_ hcb_ hbb_; have HS_ := A0_ (Sp.boxed HS.out hgb_ hcb_ hbb_); clear HS; have HS := HS_; clear HS_; clear hgb_ hcb_ hbb_; have ha0 := (blk_cell (Sp.blk HS.out (i := 0) rfl).1 0).trans rfl))
      | (go_at_call 56; refine (HIA.out _ _ HS.out).mono ?_; rintro e wi_ ⟨rfl, hs_⟩; have HS_ := A0_ (hs_); clear HS; have HS := HS_; clear HS_; clear hs_ ha0))
    go_ret3
    exact ⟨_, rfl, Kd.R_nil kI 2 _ _ _, HS.out.below⟩
  | true =>
    rw [has] at hia
    have HIA := A0_ hia
    have hlen := (asm_of has).1
    have HL := A0_ (show 1 ≤ parts.length ∧ parts.length ≤ 4 by omega)
    have HF := A0_ (show FrOk w Ap parts from fr_at hC hz has)
    have HST := A0_ (show exitR parts = (match exitX parts with
      | none => ([], 0, 3)
      | some (S, i) => if i < 0 then ([], 0, 4) else (wayN S i.toNat, (freeP parts (ndAt S i.toNat).1).getD 0 0, 0)) by unfold exitR; rw [has, if_pos rfl])
    clear has hia hC hz hlen
    obtain ⟨RV, hRV⟩ : ∃ RV, RV = exitR parts := ⟨_, rfl⟩
    have HRV := A0_ (hRV.trans HST.out)
    rw [← hRV]
    clear hRV HST
    have HSR := A0_ (show exitX parts = searchX parts (exB parts true) 1201 [(zerosC parts.length, -1, 0)] 0 from rfl)
    obtain ⟨R, hR⟩ : ∃ R, R = exitX parts := ⟨_, rfl⟩
    rw [← hR] at HSR HRV
    clear hR
    go_enter Try.func33, Try.ntmps33
    go_wp2_with (first
      | ((with_reducible refine gate_dst (N := 1) rfl ?_); go_loud (refine box_event ?hg (N := 1) ?hd (cs := #[.slice Ap parts.length cp]) (t := 32) ?hr ?_; (case hd => rfl); (case hg => rfl); (case hr => first | (go_simp; done) | (go_simp; rfl)); intro ga hgb_ wb_ hcb_ hbb_; have HS_ := A0_ (Sp.boxed HS.out hgb_ hcb_ hbb_); clear HS; have HS := HS_; clear HS_; clear hgb_ hcb_ hbb_; have ha0 := (blk_cell (Sp.blk HS.out (i := 0) rfl).1 0).trans rfl))
      | (go_at_call 56; refine (HIA.out _ _ HS.out).mono ?_; rintro e wi_ ⟨rfl, hs_⟩; have HS_ := A0_ (hs_); clear HS; have HS := HS_; clear HS_; clear hs_ ha0; have ha0 := (blk_cell (Sp.blk HS.out (i := 0) rfl).1 0).trans rfl)
      | (go_at_call 57; refine (newTaking_calls w Ap cp parts HL.out _ _ HS.out).mono ?_; rintro e wt_ ⟨gt, g, gM, gS, As0, cs0, st0, hst_, rfl, hs_⟩; have HST0 := A0_ hst_; clear hst_; have HS_ := A0_ (hs_); clear HS; have HS := HS_; clear HS_; clear hs_ ha0))
    go_loopg [6] 1202 (fun kq v6 w' => ∃ (k : Nat) (As : Option Addr) (cs : Nat) (ST : List (RawSt × List Cb)), v6 = .int .i64 (k : Int) ∧ Aside0 (k ≤ ST.length ∧ kq + k = 1202 ∧ searchX parts (exB parts true) (1201 - k) (ndsOf ST) k = R ∧ (∀ p ∈ ST, p.2.length = parts.length) ∧ ST.length ≤ 1200 ∧ WfN (ndsOf ST)) ∧ Aside0 (Sp w (tkRes w.heap.size gt g gM gS Ap cp parts As cs ST ++ [Res.blk ga #[.slice Ap parts.length cp] 32]) w'))
    case atStart =>
      have h0 : ndsOf [(st0, zerosC parts.length)] = [(zerosC parts.length, -1, 0)] := by show [nodeOf (st0, zerosC parts.length)] = _; rw [show nodeOf (st0, zerosC parts.length) = (zerosC parts.length, st0.src, st0.mv) from rfl, HST0.out.1, HST0.out.2]
      exact ⟨0, As0, cs0, [(st0, zerosC parts.length)], rfl, ⟨by simp, by omega, by rw [HSR.out, h0], fun p hp => by obtain rfl := List.mem_singleton.1 hp; exact List.length_replicate, by simp, by rw [h0]; exact (rel_start parts.length).wf⟩, HS⟩
    case round =>
      clear HS
      obtain ⟨k, As, cs, ST, rfl, HX, HS⟩ := hrel
      obtain ⟨k1, rfl⟩ : ∃ k1, gk = k1 + 1 := ⟨gk - 1, by have := HX.out; omega⟩
      have htk1 : wr.cell? ⟨gt, 1, none⟩ = some (.slice As ST.length cs) := (blk_cell (Sp.blk HS.out (i := 0) rfl).1 1).trans rfl
      by_cases ck : k < ST.length
      · have ck0 : decide (k < ST.length) = true := decide_eq_true ck
        have HW := A0_ (wrap_succ k (by have := HX.out; omega))
        obtain ⟨p0, hp0⟩ : ∃ p0, ST[k]? = some p0 := ⟨ST[k], List.getElem?_eq_getElem ck⟩
        have hmem : p0 ∈ ST := List.mem_of_getElem? hp0
        have hgd : (ndAt (ndsOf ST) k).1 = p0.2 := by unfold ndAt; rw [List.getD_eq_getElem?_getD, List.getElem?_map, hp0]; rfl
        have hse := HX.out.2.2.1
        rw [show 1201 - k = (1200 - k) + 1 by have := HX.out; omega] at hse
        unfold searchX at hse
        rw [if_pos (by rw [List.length_map]; exact ck), hgd] at hse
        have hsp := fun w2 hs => spread_calls w Ap cp g gM gS gt parts HF.out HL.out As cs ST k p0 hp0 HX.out.2.2.2.1 HX.out.2.2.2.2.1 [Res.blk ga #[.slice Ap parts.length cp] 32] w2 hs
        have hol := HX.out.2.2.2.1 p0 hmem
        obtain ⟨hpn, hpc⟩ := Sp.poolN HS.out (i := 2) rfl hmem
        have hfc := fun Ao (hA : p0.1.A = some Ao) rs w2 (hs : Sp w ([frBlk g gM Ap cp parts, frMemo gM parts, Res.pool w.heap.size ST] ++ rs) w2) => free_calls w Ap cp g gM parts HF.out (Res.pool w.heap.size ST) Ao p0.1.c p0.2 (hA ▸ Rds.pool hmem) hol rs w2 hs
        have hnd : ((ST.map Prod.fst).getD k default) = p0.1 := by rw [List.getD_eq_getElem?_getD, List.getElem?_map, hp0]; rfl
        have HC := Sp.rds HS.out (i := 2) rfl (Rds.pool hmem)
        have HLE := A0_ (fun S' (h : spreadP parts p0.2 k (ndsOf ST) = some S') => spread_le _ h)
        have HWL := A0_ (fun S' (h : spreadP parts p0.2 k (ndsOf ST) = some S') => spread_wf (o := p0.2) (k := k) _ h HX.out.2.2.2.2.2 (by rw [List.length_map]; exact ck))
        obtain ⟨⟨A0, n0, co, s0, m0⟩, o⟩ := p0
        dsimp only at hpn hpc hol hgd HC hfc hsp hse hnd HLE HWL
        subst hpn
        obtain ⟨Ao, e, hjunk⟩ := HC.2.2 (by have := HL.out; omega)
        subst e
        have HFC := A0_ (hfc Ao rfl)
        have HSP := A0_ hsp
        have HND := A0_ (show (Value.slice ((ST.map Prod.fst).getD k default).A ((ST.map Prod.fst).getD k default).n ((ST.map Prod.fst).getD k default).c) = .slice (some Ao) o.length co by rw [hnd])
        have HKL := A0_ (show k < (ST.map Prod.fst).length by rw [List.length_map]; exact ck)
        have HCK := A0_ (show k < ST.length from ck)
        obtain ⟨fs, hfs⟩ : ∃ fs, fs = freeP parts o := ⟨_, rfl⟩
        have hexb : exB parts true o = decide (0 < fs.length) := by rw [hfs]; rfl
        rw [hexb] at hse
        rw [← hfs] at HFC
        have HGD := A0_ hgd
        have HFS := A0_ hfs
        have HSE := A0_ hse
        obtain ⟨ads, e, _⟩ := at_St (Sp.reads HS.out (i := 1) rfl).2.2 k (by rw [List.length_map]; exact ck)
        subst e
        have q0 : (0 ≤ (k : Int)) = True := eq_true (by omega)
        have q1 : ((k : Int) < (ST.length : Int)) = True := eq_true (by omega)
        have q2 : (k < ST.length) = True := eq_true ck
        clear HC hjunk hfc hsp hpc hol hse hexb hfs hgd hp0 hmem hnd ck
        go_wp2
        have HS_ := A0_ (show Sp w ([tkBlk gt g gS (some ads) ST.length cs, Res.row kSt 104 w.heap.size (.slice (some ads) ST.length cs) (ST.map Prod.fst), Res.pool w.heap.size ST, setR parts.length gS (ST.map Prod.snd), frBlk g gM Ap cp parts, frMemo gM parts, Res.blk ga #[.slice Ap parts.length cp] 32] ++ ([] : List Res)) wr.drew from Sp.drew HS.out)
        clear HS htk1
        have HS := HS_
        clear HS_
        refine start_ (n := 14) (S := fun w' => w'.cell? ⟨gt, 0, none⟩ = some (.pointer (some ⟨g, 0, none⟩)) ∧ w'.cell? ⟨gt, 1, none⟩ = some (.slice (some ads) ST.length cs) ∧ w'.cell? (ads.add (k * 3)) = some (.slice (some Ao) o.length co)) (ds := []) #[false, false, false, false, false, false, false, false, false, false, false, false, false, false] (by kernel_rfl) rfl rfl (⟨(blk_cell (Sp.blk HS.out (i := 0) rfl).1 0).trans rfl, (blk_cell (Sp.blk HS.out (i := 0) rfl).1 1).trans rfl, (HND.out ▸ (Sp.stCells HS.out (i := 1) rfl k HKL.out).1)⟩) (fun hHeld => ?_)
        refine with_tabW fexF.tab7 fexF.bits7 (fun HT_ HW_ => ?_)
        generalize wr.drew = wD at HS hHeld ⊢
        refine on_ 0 (some 22) ?_
        refine on_ 1 (some 23) ?_
        refine on_ 2 (some 24) ?_
        refine tk_ 3 (some 25) ?_
        refine on_ 4 (some 26) ?_
        refine on_ 5 (some 27) ?_
        refine on_ 6 (some 28) ?_
        refine tk_ 7 (some 29) ?_
        refine on_ 8 (some 30) ?_
        refine on_ 9 (some 31) ?_
        refine on_ 10 (some 32) ?_
        refine tk_ 11 (some 33) ?_
        refine o1_ 12 (some 34) (fun K hK => ?_)
        have HS_ := A0_ (Sp.arr (pre := [tkBlk gt g gS (some ads) ST.length cs, Res.row kSt 104 w.heap.size (.slice (some ads) ST.length cs) (ST.map Prod.fst), Res.pool w.heap.size ST, setR parts.length gS (ST.map Prod.snd), frBlk g gM Ap cp parts, frMemo gM parts, Res.blk ga #[.slice Ap parts.length cp] 32]) (pre' := [frBlk g gM Ap cp parts, frMemo gM parts, Res.pool w.heap.size ST, tkBlk gt g gS (some ads) ST.length cs, Res.row kSt 104 w.heap.size (.slice (some ads) ST.length cs) (ST.map Prod.fst), setR parts.length gS (ST.map Prod.snd), Res.blk ga #[.slice Ap parts.length cp] 32]) (rest := ([] : List Res)) [4, 5, 2, 0, 1, 3, 6] HS.out rfl rfl)
        clear HS
        have HS := HS_
        clear HS_
        refine goes_ Try.func66 (by kernel_rfl) rfl #[.pointer (some ⟨g, 0, none⟩), .slice (some Ao) o.length co] (by rfl) rfl rfl (by (try simp only [List.map_toArray, List.map_cons, List.map_nil]); first | done | rfl | (simp only [List.length_drop, List.length_take]; rfl)) ?_
        refine (HFC.out _ _ HS.out).mono ?_
        rintro e wm_ ⟨Am, cm, rfl, hs_⟩
        refine ⟨_, rfl, ?_⟩
        have HS_ := A0_ (hs_)
        clear HS
        have HS := HS_
        clear HS_
        clear hs_
        refine hK.out _ _ (⟨(blk_cell (Sp.blk HS.out (i := 4) rfl).1 0).trans rfl, (blk_cell (Sp.blk HS.out (i := 4) rfl).1 1).trans rfl, (HND.out ▸ (Sp.stCells HS.out (i := 5) rfl k HKL.out).1)⟩) (fun hHeld => ?_)
        clear hK K
        refine nm_ (some 34) ?_
        refine on_ 13 (some 7) ?_
        refine dn_ ?_
        have HS_ := A0_ (Sp.arr (pre := [Res.row kI 2 w.heap.size (.slice Am fs.length cm) fs, frBlk g gM Ap cp parts, frMemo gM parts, Res.pool w.heap.size ST, tkBlk gt g gS (some ads) ST.length cs, Res.row kSt 104 w.heap.size (.slice (some ads) ST.length cs) (ST.map Prod.fst), setR parts.length gS (ST.map Prod.snd), Res.blk ga #[.slice Ap parts.length cp] 32]) (pre' := [tkBlk gt g gS (some ads) ST.length cs, Res.row kSt 104 w.heap.size (.slice (some ads) ST.length cs) (ST.map Prod.fst), Res.pool w.heap.size ST, setR parts.length gS (ST.map Prod.snd), frBlk g gM Ap cp parts, frMemo gM parts, Res.row kI 2 w.heap.size (.slice Am fs.length cm) fs, Res.blk ga #[.slice Ap parts.length cp] 32]) (rest := ([] : List Res)) [4, 5, 3, 6, 1, 2, 0, 7] HS.out rfl rfl)
        clear HS
        have HS := HS_
        clear HS_
        by_cases hz : 0 < fs.length
        · have z0 : decide (0 < fs.length) = true := decide_eq_true hz
          have z1 := eq_true hz
          obtain ⟨adf, e, _⟩ := Kd.at_int (Sp.reads HS.out (i := 6) rfl).2.2 (0 : Int) (by omega) (by omega)
          subst e
          have HNE := A0_ (show 0 < fs.length from hz)
          obtain ⟨f0, hf0⟩ : ∃ f0, f0 = fs.getD 0 0 := ⟨_, rfl⟩
          have HF0 := A0_ (show Value.int .i64 (fs.getD 0 0) = .int .i64 f0 by rw [hf0])
          have HR := A0_ (show RV = (wayN (ndsOf ST) k, f0, 0) by
            have hse := HSE.out
            rw [if_pos z0] at hse
            rw [HRV.out, ← hse]
            dsimp only
            rw [if_neg (by omega), Int.toNat_natCast, HGD.out, ← HFS.out, hf0])
          clear hz hf0
          go_wp2
          have HS_ := A0_ (Sp.drew HS.out)
          clear HS
          have HS := HS_
          clear HS_
          refine start_ (n := 9) (S := fun w' => w'.cell? adf = some (.int .i64 f0)) (ds := []) #[false, false, false, false, false, false, false, false, false] (by kernel_rfl) rfl rfl ((HF0.out ▸ Sp.intCell0 HS.out (i := 6) rfl HNE.out)) (fun hHeld => ?_)
          refine with_tabW fexF.tab9 fexF.bits9 (fun HT_ HW_ => ?_)
          generalize wm_.drew = wD at HS hHeld ⊢
          refine on_ 0 (some 38) ?_
          refine on_ 1 (some 39) ?_
          refine on_ 3 (some 41) ?_
          refine on_ 4 (some 42) ?_
          refine tk_ 5 (some 43) ?_
          refine o1_ 2 (some 40) (fun K hK => ?_)
          refine goes_ Try.func67 (by kernel_rfl) rfl #[.pointer (some ⟨gt, 0, none⟩), .int .i64 k] (by rfl) rfl rfl (by (try simp only [List.map_toArray, List.map_cons, List.map_nil]); first | done | rfl | (simp only [List.length_drop, List.length_take]; rfl)) ?_
          refine (way_calls w gt g gM gS Ap cp parts (some ads) cs ST HX.out.2.2.2.2.2 HX.out.2.2.2.2.1 k HCK.out ([Res.row kI 2 w.heap.size (.slice (some adf) fs.length cm) fs, Res.blk ga #[.slice Ap parts.length cp] 32] ++ ([] : List Res)) _ HS.out).mono ?_
          rintro e wv_ ⟨Av, cv, rfl, hs_⟩
          refine ⟨_, rfl, ?_⟩
          have HS_ := A0_ (hs_)
          clear HS
          have HS := HS_
          clear HS_
          clear hs_
          refine hK.out _ _ ((HF0.out ▸ Sp.intCell0 HS.out (i := 7) rfl HNE.out)) (fun hHeld => ?_)
          clear hK K
          refine nm_ (some 40) ?_
          refine on_ 6 (some 2) ?_
          refine on_ 7 (some 3) ?_
          refine on_ 8 (some 4) ?_
          refine dn_ ?_
          try go_wp2
          go_ret3
          rw [HR.out]
          obtain ⟨fp_, hp_, _⟩ := Sp.get HS.out (i := 0) rfl
          exact ⟨_, rfl, Kd.R_mono hp_ (fun _ _ => trivial), HS.out.below⟩
        · have z0 : decide (0 < fs.length) = false := decide_eq_false hz
          have z1 := eq_false hz
          have hse := HSE.out
          rw [if_neg (by rw [z0]; simp)] at hse
          clear HSE hz
          have HS_ := A0_ (show Sp w (tkRes w.heap.size gt g gM gS Ap cp parts (some ads) cs ST ++ [Res.blk ga #[.slice Ap parts.length cp] 32]) _ from Sp.out HS.out 6)
          clear HS
          have HS := HS_
          clear HS_
          cases hv : spreadP parts o k (ndsOf ST) with
          | none =>
            have hsp := fun w2 hs => HSP.out w2 hs
            rw [show spreadP parts o k (ST.map nodeOf) = none from hv] at hsp
            rw [hv] at hse
            have HSP2 := A0_ hsp
            have HR := A0_ (show R = none from hse.symm)
            clear hse hsp hv HSP
            go_wp2_with (first
              | (go_at_call 58; refine (HSP2.out _ HS.out).mono ?_; rintro e ws_ hp_; obtain ⟨rfl, hb_⟩ := hp_; have HBL := A0_ hb_; clear hb_))
            go_ret3
            have hrv : RV = ([], 0, 3) := by rw [HRV.out, HR.out]
            exact ⟨_, by rw [hrv]; rfl, by rw [hrv]; exact Kd.R_nil kI 2 _ _ _, HBL.out⟩
          | some S' =>
            have hsp := fun w2 hs => HSP.out w2 hs
            rw [show spreadP parts o k (ST.map nodeOf) = some S' from hv] at hsp
            rw [hv] at hse
            have HSP2 := A0_ hsp
            have HLE2 := A0_ (HLE.out S' hv)
            have HWL2 := A0_ (HWL.out S' hv)
            have HSE := A0_ (show searchX parts (exB parts true) (1200 - k) S' (k + 1) = R from hse)
            clear hse hsp hv HSP HLE HWL
            go_wp2_with (first
              | (go_at_call 58; refine (HSP2.out _ HS.out).mono ?_; rintro e ws_ hp_; obtain ⟨rfl, As2, cs2, ST2, hm2_, hl2_, h12_, hs_⟩ := hp_; have HM2 := A0_ hm2_; have HL2 := A0_ hl2_; have H122 := A0_ h12_; have HS_ := A0_ (hs_); clear HS; have HS := HS_; clear HS_; clear hs_ hm2_ hl2_ h12_))
            go_roundg k1
            case measure => omega
            case rel =>
              rw [HW.out]
              exact ⟨k + 1, As2, cs2, ST2, rfl, ⟨by have h1 := HLE2.out; have h2 := HCK.out; rw [← HM2.out, List.length_map, List.length_map] at h1; omega, by have := HX.out; omega, by rw [show ndsOf ST2 = S' from HM2.out, show 1201 - (k + 1) = 1200 - k by omega]; exact HSE.out, HL2.out, H122.out, by rw [show ndsOf ST2 = S' from HM2.out]; exact HWL2.out⟩, HS⟩
      · have ck0 : decide (k < ST.length) = false := decide_eq_false ck
        have HR := A0_ (show R = some (ndsOf ST, -1) by
          have hse := HX.out.2.2.1
          rw [show 1201 - k = (1200 - k) + 1 by have := HX.out; omega] at hse
          unfold searchX at hse
          rw [if_neg (by rw [List.length_map]; exact ck)] at hse
          exact hse.symm)
        clear ck
        go_wp2
        go_ret3
        have hrv : RV = ([], 0, 4) := by rw [HRV.out, HR.out]; rfl
        exact ⟨_, by rw [hrv]; rfl, by rw [hrv]; exact Kd.R_nil kI 2 _ _ _, HS.out.below⟩
end Go.Proofs.Ytlbckkagjekhnaa.A

/- The statement's Leaves and Free answer as the program's. No program in sight. -/
namespace Go.Proofs.Ytlbckkagjekhnaa.A
open Go.RowKit Go.Proofs.YtlbckkagjekhnaaW.PrintWords Go.Proofs.YtlbckkagjekhnaaW.PrintLast Go.Proofs.YtlbckkagjekhnaaW.PrintMore
set_option linter.unusedVariables false
set_option linter.unusedSimpArgs false
theorem leaves_ev (parts : List (List Cb)) (offs : List Cb) (hl : offs.length = parts.length) (h8 : parts.length ≤ 8) (hsz : ∀ p ∈ parts, p.length ≤ 1048576) (hp : ∀ p ∈ parts, ∀ c ∈ p, inCb c 0 7 = true) (ho : ∀ j : Nat, j < offs.length → inCb (oAt offs j) (-12) 12 = true) (p : Nat) (hpl : p < parts.length) (d : Int) (hd : 0 ≤ d ∧ d < 6) :
    Ev (fun k => spec_l27Leaves.f k parts offs (p : Int) d) (leavesP parts offs p d) := Ev.val fun k => by
  unfold spec_l27Leaves.f
  rw [if_pos ⟨⟨hl, h8⟩, hsz, hp, fun c hc => by
    obtain ⟨i, hi, rfl⟩ := List.mem_iff_getElem.1 hc
    have e : oAt offs i = offs[i] := by simp [oAt, List.getD_eq_getElem?_getD, hi]
    rw [← e]
    exact ho i hi, ⟨by omega, by omega⟩, hd⟩]
theorem free_ev (parts : List (List Cb)) (offs : List Cb) (hl : offs.length = parts.length) (h8 : parts.length ≤ 8) (hsz : ∀ p ∈ parts, p.length ≤ 1048576) (hp : ∀ p ∈ parts, ∀ c ∈ p, inCb c 0 7 = true) (ho : ∀ j : Nat, j < offs.length → inCb (oAt offs j) (-12) 12 = true) :
    Ev (fun k => spec_l27Free.f k parts offs) (freeP parts offs) := by
  obtain ⟨r, hr, hk⟩ : ∃ r, r = freeP parts offs ∧ Ev (fun k => spec_l27Free.l0 k offs [] 0 parts) r := by
    refine ev_inv0 (6 * parts.length) (fun (s : List Int) j => s = freeK parts offs j) (fun r => r = freeP parts offs) (fun s i k => spec_l27Free.l0 k offs s i parts) (fun s hI => ?_) (fun s j hj hI => ?_) [] rfl
    · refine ⟨s, hI, Ev.step (f := fun _ => some s) (fun k => by simp only [spec_l27Free.l0]; rw [wrap_id (by omega) (by omega), if_neg (by omega)]) (Ev.now _)⟩
    · have hw := wrap_succ j (by omega)
      have hsl : s.length < 17592186044416 := by
        rw [hI]
        have := freeK_len parts offs j
        omega
      have e1 : wrap64 ((j : Int).tdiv 6) = ((j / 6 : Nat) : Int) := by rw [show (j : Int).tdiv 6 = ((j / 6 : Nat) : Int) from rfl, wrap_id (by omega) (by omega)]
      have e2 : (j : Int).tmod 6 = ((j % 6 : Nat) : Int) := rfl
      have hle := leaves_ev parts offs hl h8 hsz hp ho (j / 6) (by omega) ((j % 6 : Nat) : Int) (by omega)
      have hst := freeK_succ parts offs j
      refine .inr ⟨freeK parts offs (j + 1), rfl, fun r h2 => ?_⟩
      refine Ev.step (f := fun k => (spec_l27Leaves.f k parts offs ((j / 6 : Nat) : Int) ((j % 6 : Nat) : Int)).bind fun t => if t = true then spec_l27Free.l0 k offs (s ++ [(j : Int)]) ((j + 1 : Nat) : Int) parts else spec_l27Free.l0 k offs s ((j + 1 : Nat) : Int) parts) (fun k => ?_) (Ev.bind hle ?_)
      · simp only [spec_l27Free.l0, hw, e1, e2]
        rw [wrap_id (by omega) (by omega), if_pos (by omega)]
        simp only [hsl, if_true]
      · cases hb : leavesP parts offs ((j / 6 : Nat) : Int) ((j % 6 : Nat) : Int) with
        | true =>
          rw [hst, hb, if_pos rfl, ← hI] at h2
          exact h2
        | false =>
          rw [hst, hb, if_neg (by simp), List.append_nil, ← hI] at h2
          exact h2
  rw [← hr]
  exact hk
end Go.Proofs.Ytlbckkagjekhnaa.A

/- spec.l28Exit, walked; what both sides answer on exits. -/
namespace Go.Proofs.Ytlbckkagjekhnaa.A
open Go.RowKit Go.Proofs.YtlbckkagjekhnaaW.PrintWords Go.Proofs.YtlbckkagjekhnaaW.PrintLast Go.Proofs.YtlbckkagjekhnaaW.PrintMore
set_option linter.unusedVariables false
set_option linter.unusedSimpArgs false
/-- The way to an exit, the offsets there, and the code. -/
def exitW (parts : List (List Cb)) : List Int × List Cb × Int :=
  if asmP parts = true then (match searchW parts (exB parts true) 1201 [(zerosC parts.length, [])] 0 with
    | none => ([], [], 3)
    | some (T, i) => if i < 0 then ([], [], 4) else ((pwAt T i.toNat).2, (pwAt T i.toNat).1, 0)) else ([], [], 1)
theorem near_at (o : List Cb) (h : o.any (fun c => !inCb c (-3) 3) = false) : ∀ j : Nat, j < o.length → inCb (oAt o j) (-12) 12 = true := fun j hj => by
  have e : oAt o j = o[j] := by simp [oAt, List.getD_eq_getElem?_getD, hj]
  rw [e]
  rw [List.any_eq_false] at h
  have h2 := h o[j] (List.getElem_mem hj)
  rw [Bool.not_eq_true', Bool.not_eq_false] at h2
  exact inCb_mono h2 (by omega) (by omega)
theorem sfree_at {parts : List (List Cb)} (hz : SzOk parts) (h : asmP parts = true) : ∀ o : List Cb, o.length = parts.length → o.any (fun c => !inCb c (-3) 3) = false → ∃ K, spec_l27Free.f K parts o = some (freeP parts o) := fun o ho hn =>
  (free_ev parts o ho (by have := (asm_of h).1; omega) hz.each (fun p hp => ((asm_of h).2 p hp).2) (near_at o hn)).rounds
theorem Sp.nil2 {w0 w : World} {rs : List Res} (h : Sp w0 rs w) : Sp w0 [Res.row kI 2 w0.heap.size (.slice none 0 0) [], Res.row kC 69 w0.heap.size (.slice none 0 0) []] w := by
  have h0 := Sp.start' h.below
  have h1 := h0.push (r := Res.row kC 69 w0.heap.size (.slice none 0 0) []) (Below.refl _ _) (Kd.R_nil kC 69 _ _ _)
  exact h1.push (r := Res.row kI 2 w0.heap.size (.slice none 0 0) []) (Below.refl _ _) (Kd.R_nil kI 2 _ _ _)
theorem Sp.made2 {w0 w w' : World} {rs : List Res} {α β : Type} {d : Kd α} {d' : Kd β} {e e' : Nat} {v v' : Value} {xs : List α} {ys : List β} (h : Sp w0 rs w) (h2 : Sp w [Res.row d e w.heap.size v xs, Res.row d' e' w.heap.size v' ys] w') : Sp w0 (Res.row d e w0.heap.size v xs :: Res.row d' e' w0.heap.size v' ys :: rs) w' := by
  have h3 := Sp.app h h2
  have h4 := Sp.weak h3 (i := 0) (r' := Res.row d e w0.heap.size v xs) rfl (fun fp hp => Kd.R_lower hp h.below.size)
  exact Sp.weak h4 (i := 1) (r' := Res.row d' e' w0.heap.size v' ys) rfl (fun fp hp => Kd.R_lower hp h.below.size)
def exiF.T8 : Bool × List (List Nat × List Nat) := (true, [([], []), ([0], [0]), ([1], [1]), ([2], [2]), ([], []), ([3, 4], [3, 4]), ([5], [5]), ([], []), ([7], [7]), ([8], [8]), ([9], [9]), ([], []), ([10, 11], [10, 11]), ([12], [12]), ([6, 0, 1, 2, 3, 4, 5, 6], [6]), ([13, 14, 0, 1, 2, 3, 4, 5, 6, 7, 8, 9, 10, 11, 12, 13, 14], [13]), ([15, 0, 1, 2, 3, 4, 5, 6, 7, 8, 9, 10, 11, 12, 13, 14, 15], [])])
def exiF.B8 : List Nat := [0, 1, 3, 7, 0, 31, 63, 0, 128, 384, 896, 0, 3968, 8064, 127, 32767, 65535]
theorem exiF.tab8 : rtab .any (opsOf Try.f59 8) = exiF.T8 := by kernel_rfl
theorem exiF.bits8 : waitsOk exiF.T8.2 exiF.B8 = true := by kernel_rfl
set_option maxHeartbeats 8000000 in
set_option maxRecDepth 100000 in
theorem sExit_calls (Ap : Option Addr) (cp : Nat) (parts : List (List Cb)) (w : World) (hC : kP.C w Ap parts.length parts) (hcp : parts.length ≤ cp) (hz : SzOk parts) :
    Calls Try.prog 59 #[.agg #[.slice Ap parts.length cp]] w fun e w' => ∃ v1_ v2_ : Value, e = .returned (.tuple #[v1_, v2_, .int .i64 (exitW parts).2.2]) ∧ Sp w [Res.row kI 2 w.heap.size v1_ (exitW parts).1, Res.row kC 69 w.heap.size v2_ (exitW parts).2.1] w' := by
  have hu32 := Try.underlying32
  have hu83 := Try.underlying83
  have HS := A0_ (Sp.start w)
  have hia := fun w' (hb : Below w.heap.size w w') => sIsAsm_calls Ap cp parts w' (Kd.C_below hC hb) hcp hz
  cases has : asmP parts with
  | false =>
    rw [has] at hia
    have HIA := A0_ hia
    have HST := A0_ (show exitW parts = ([], [], 1) by unfold exitW; rw [has, if_neg (by simp)])
    clear has hia hC hz
    rw [HST.out]
    go_enter Try.func59, Try.ntmps59
    go_wp2_with (first
      | ((with_reducible refine gate_dst (N := 1) rfl ?_); refine box_event ?hg (N := 1) ?hd (cs := #[.slice Ap parts.length cp]) (t := 32) ?hr ?_; (case hd => rfl); (case hg => rfl); (case hr => first | (go_simp; done) | (go_simp; rfl)); intro ga hgb_ wb_ hcb_ hbb_; have HS_ := A0_ (Sp.boxed HS.out hgb_ hcb_ hbb_); clear HS; have HS := HS_; clear HS_; clear hgb_ hcb_ hbb_; have ha0 := (blk_cell (Sp.blk HS.out (i := 0) rfl).1 0).trans rfl)
      | (go_at_call 54; refine (HIA.out _ HS.out.below).mono ?_; rintro e wi_ ⟨rfl, hb_⟩; have HS_ := A0_ (Sp.far HS.out hb_); clear HS; have HS := HS_; clear HS_; clear hb_ ha0))
    go_ret3
    exact ⟨_, _, rfl, Sp.nil2 HS.out⟩
  | true =>
    rw [has] at hia
    have HIA := A0_ hia
    have hlen := (asm_of has).1
    have HST := A0_ (show exitW parts = (match searchW parts (exB parts true) 1201 [(zerosC parts.length, [])] 0 with
      | none => ([], [], 3)
      | some (T, i) => if i < 0 then ([], [], 4) else ((pwAt T i.toNat).2, (pwAt T i.toNat).1, 0)) by unfold exitW; rw [has, if_pos rfl])
    have HSE := A0_ (fun rs w2 (hs : Sp w rs w2) => search_calls w Ap cp parts (fr_at hC hz has) hcp (by omega) (spec_ok parts.length (by omega)) (smoves_at hz has) true (fun _ => sfree_at hz has) rs w2 hs)
    have HRX := A0_ (show RelX (exitX parts) (searchW parts (exB parts true) 1201 [(zerosC parts.length, [])] 0) from search_rel parts (exB parts true) 1201 _ _ 0 (rel_start parts.length))
    clear has hia hC hz hlen
    obtain ⟨RV, hRV⟩ : ∃ RV, RV = exitW parts := ⟨_, rfl⟩
    have HRV := A0_ (hRV.trans HST.out)
    rw [← hRV]
    clear hRV HST
    generalize searchW parts (exB parts true) 1201 [(zerosC parts.length, [])] 0 = R at HSE HRV HRX
    cases R with
    | none =>
      have HRW := A0_ (show RV = ([], [], 3) from HRV.out)
      clear HRV HRX
      go_enter Try.func59, Try.ntmps59
      go_wp2_with (first
        | ((with_reducible refine gate_dst (N := 1) rfl ?_); refine box_event ?hg (N := 1) ?hd (cs := #[.slice Ap parts.length cp]) (t := 32) ?hr ?_; (case hd => rfl); (case hg => rfl); (case hr => first | (go_simp; done) | (go_simp; rfl)); intro ga hgb_ wb_ hcb_ hbb_; have HS_ := A0_ (Sp.boxed HS.out hgb_ hcb_ hbb_); clear HS; have HS := HS_; clear HS_; clear hgb_ hcb_ hbb_; have ha0 := (blk_cell (Sp.blk HS.out (i := 0) rfl).1 0).trans rfl)
        | (go_at_call 54; refine (HIA.out _ HS.out.below).mono ?_; rintro e wi_ ⟨rfl, hb_⟩; have HS_ := A0_ (Sp.far HS.out hb_); clear HS; have HS := HS_; clear HS_; clear hb_ ha0; have ha0 := (blk_cell (Sp.blk HS.out (i := 0) rfl).1 0).trans rfl)
        | (go_at_call 55; refine (HSE.out _ _ HS.out).mono ?_; rintro e ws_ ⟨gs, i_, rfl, _, Ao, co, Aw, cw, PS, WS, hok_, hs_⟩; have HS_ := A0_ (hs_); clear HS; have HS := HS_; clear HS_; clear hs_ hok_ ha0; have hs0 := (blk_cell (Sp.blk HS.out (i := 0) rfl).1 0).trans rfl; have hs2 := (blk_cell (Sp.blk HS.out (i := 0) rfl).1 2).trans rfl))
      go_ret3
      rw [HRW.out]
      exact ⟨_, _, rfl, Sp.nil2 HS.out⟩
    | some r =>
      obtain ⟨T, i⟩ := r
      by_cases hi : i < 0
      · have HRW := A0_ (show RV = ([], [], 4) by rw [HRV.out]; exact if_pos hi)
        have i0 : decide (i < 0) = true := decide_eq_true hi
        have i1 := eq_true hi
        clear HRV HRX hi
        go_enter Try.func59, Try.ntmps59
        go_wp2_with (first
          | ((with_reducible refine gate_dst (N := 1) rfl ?_); refine box_event ?hg (N := 1) ?hd (cs := #[.slice Ap parts.length cp]) (t := 32) ?hr ?_; (case hd => rfl); (case hg => rfl); (case hr => first | (go_simp; done) | (go_simp; rfl)); intro ga hgb_ wb_ hcb_ hbb_; have HS_ := A0_ (Sp.boxed HS.out hgb_ hcb_ hbb_); clear HS; have HS := HS_; clear HS_; clear hgb_ hcb_ hbb_; have ha0 := (blk_cell (Sp.blk HS.out (i := 0) rfl).1 0).trans rfl)
          | (go_at_call 54; refine (HIA.out _ HS.out.below).mono ?_; rintro e wi_ ⟨rfl, hb_⟩; have HS_ := A0_ (Sp.far HS.out hb_); clear HS; have HS := HS_; clear HS_; clear hb_ ha0; have ha0 := (blk_cell (Sp.blk HS.out (i := 0) rfl).1 0).trans rfl)
          | (go_at_call 55; refine (HSE.out _ _ HS.out).mono ?_; rintro e ws_ ⟨gs, i_, rfl, hj_, Ao, co, Aw, cw, PS, WS, hok_, hm_, hs_⟩; obtain rfl := hj_ T i rfl; have HS_ := A0_ (hs_); clear HS; have HS := HS_; clear HS_; clear hs_ hok_ hm_ ha0 hj_; have hs0 := (blk_cell (Sp.blk HS.out (i := 0) rfl).1 0).trans rfl; have hs2 := (blk_cell (Sp.blk HS.out (i := 0) rfl).1 2).trans rfl))
        go_ret3
        rw [HRW.out]
        exact ⟨_, _, rfl, Sp.nil2 HS.out⟩
      · have HRW := A0_ (show RV = ((pwAt T i.toNat).2, (pwAt T i.toNat).1, 0) by rw [HRV.out]; exact if_neg hi)
        obtain ⟨k, hk, hkl⟩ : ∃ k : Nat, i = (k : Int) ∧ k < T.length := by
          have h := HRX.out
          cases hx : exitX parts with
          | none => rw [hx] at h; exact h.elim
          | some r2 =>
            rw [hx] at h
            obtain ⟨S2, i2⟩ := r2
            obtain ⟨h1, h2, h3⟩ := h
            rcases h3 with h3 | ⟨k, h3, h4⟩
            · exact absurd (show i < 0 by omega) hi
            · exact ⟨k, by rw [← h2, h3], by rw [← h1.len]; exact h4⟩
        subst hk
        rw [Int.toNat_natCast] at HRW
        have HKT := A0_ hkl
        have i0 : decide ((k : Int) < 0) = false := decide_eq_false hi
        have i1 := eq_false hi
        clear HRV HRX hi hkl
        go_enter Try.func59, Try.ntmps59
        go_wp2_with (first
          | ((with_reducible refine gate_dst (N := 1) rfl ?_); refine box_event ?hg (N := 1) ?hd (cs := #[.slice Ap parts.length cp]) (t := 32) ?hr ?_; (case hd => rfl); (case hg => rfl); (case hr => first | (go_simp; done) | (go_simp; rfl)); intro ga hgb_ wb_ hcb_ hbb_; have HS_ := A0_ (Sp.boxed HS.out hgb_ hcb_ hbb_); clear HS; have HS := HS_; clear HS_; clear hgb_ hcb_ hbb_; have ha0 := (blk_cell (Sp.blk HS.out (i := 0) rfl).1 0).trans rfl)
          | (go_at_call 54; refine (HIA.out _ HS.out.below).mono ?_; rintro e wi_ ⟨rfl, hb_⟩; have HS_ := A0_ (Sp.far HS.out hb_); clear HS; have HS := HS_; clear HS_; clear hb_ ha0; have ha0 := (blk_cell (Sp.blk HS.out (i := 0) rfl).1 0).trans rfl)
          | (go_at_call 55; refine (HSE.out _ _ HS.out).mono ?_; rintro e ws_ ⟨gs, i_, rfl, hj_, Ao, co, Aw, cw, PS, WS, hok_, hm_, hs_⟩; obtain rfl := hj_ T k rfl; have HOK := A0_ hok_; have HM := A0_ hm_; have HS_ := A0_ (hs_); clear HS; have HS := HS_; clear HS_; clear hs_ hok_ hm_ ha0 hj_; have hs0 := (blk_cell (Sp.blk HS.out (i := 0) rfl).1 0).trans rfl; have hs2 := (blk_cell (Sp.blk HS.out (i := 0) rfl).1 2).trans rfl))
        have hlt : ndW PS WS = T := HM.out
        have hpl : k < PS.length := by have := HKT.out; rw [← hlt, ndW_len HOK.out.len] at this; exact this
        have hwl : k < WS.length := by rw [← HOK.out.len]; exact hpl
        obtain ⟨p0, hp0⟩ : ∃ p0, PS[k]? = some p0 := ⟨PS[k], List.getElem?_eq_getElem hpl⟩
        obtain ⟨q0, hq0⟩ : ∃ q0, WS[k]? = some q0 := ⟨WS[k], List.getElem?_eq_getElem hwl⟩
        have hpw : pwAt T k = (p0.2, q0.2) := by
          have hz : ((PS.map Prod.snd).zip (WS.map Prod.snd))[k]? = some (p0.2, q0.2) := List.getElem?_zip_eq_some.2 ⟨by rw [List.getElem?_map, hp0]; rfl, by rw [List.getElem?_map, hq0]; rfl⟩
          unfold pwAt
          rw [← hlt, List.getD_eq_getElem?_getD, hz]
          rfl
        have hpm : p0 ∈ PS := List.mem_of_getElem? hp0
        have hqm : q0 ∈ WS := List.mem_of_getElem? hq0
        obtain ⟨g1, g2, _⟩ := Sp.poolGC HS.out (i := 2) rfl hpm
        obtain ⟨f1, f2, _⟩ := Sp.poolGC HS.out (i := 4) rfl hqm
        obtain ⟨⟨A0, n0, c0⟩, o⟩ := p0
        obtain ⟨⟨A1, n1, c1⟩, wy⟩ := q0
        dsimp only at g1 g2 f1 f2 hpw
        subst g1
        subst f1
        have HPW := A0_ hpw
        have HPM := A0_ hpm
        have HQM := A0_ hqm
        have HG0 := A0_ (show slV ((PS.map Prod.fst).getD k (none, 0, 0)) = .slice A0 o.length c0 by rw [List.getD_eq_getElem?_getD, List.getElem?_map, hp0]; rfl)
        have HG1 := A0_ (show slV ((WS.map Prod.fst).getD k (none, 0, 0)) = .slice A1 wy.length c1 by rw [List.getD_eq_getElem?_getD, List.getElem?_map, hq0]; rfl)
        have HCK := A0_ hpl
        have HCW := A0_ hwl
        obtain ⟨adp, e, _⟩ := at_Sl (Sp.reads HS.out (i := 1) rfl).2.2 k (by rw [List.length_map]; exact hpl)
        subst e
        obtain ⟨adw, e, _⟩ := at_Sl (Sp.reads HS.out (i := 3) rfl).2.2 k (by rw [List.length_map]; exact hwl)
        subst e
        have q0_ : (0 ≤ (k : Int)) = True := eq_true (by omega)
        have q1_ : ((k : Int) < (PS.length : Int)) = True := eq_true (by omega)
        have q2_ : ((k : Int) < (WS.length : Int)) = True := eq_true (by omega)
        clear hlt hpl hwl hp0 hq0 hpw hpm hqm g2 f2
        go_wp2
        have HS_ := A0_ (show Sp w ([srBlk gs (some adp) PS.length co (some adw) WS.length cw false, posR w.heap.size (some adp) co PS, Res.poolG kC 69 w.heap.size PS, wayR w.heap.size (some adw) cw WS, Res.poolG kI 2 w.heap.size WS, Res.blk ga #[.slice Ap parts.length cp] 32] ++ ([] : List Res)) ws_.drew from Sp.drew HS.out)
        clear HS hs0 hs2
        have HS := HS_
        clear HS_
        refine start_ (n := 17) (S := fun w' => w'.cell? ⟨gs, 0, none⟩ = some (.slice (some adp) PS.length co) ∧ w'.cell? ⟨gs, 1, none⟩ = some (.slice (some adw) WS.length cw) ∧ w'.cell? (adp.add k) = some (.slice A0 o.length c0) ∧ w'.cell? (adw.add k) = some (.slice A1 wy.length c1)) (ds := []) #[false, false, false, false, false, false, false, false, false, false, false, false, false, false, false, false, false] (by kernel_rfl) rfl rfl (⟨(blk_cell (Sp.blk HS.out (i := 0) rfl).1 0).trans rfl, (blk_cell (Sp.blk HS.out (i := 0) rfl).1 1).trans rfl, (HG0.out ▸ Sp.slCell HS.out (i := 1) rfl k HCK.out), (HG1.out ▸ Sp.slCell HS.out (i := 3) rfl k HCW.out)⟩) (fun hHeld => ?_)
        refine with_tabW exiF.tab8 exiF.bits8 (fun HT_ HW_ => ?_)
        generalize ws_.drew = wD at HS hHeld ⊢
        refine on_ 0 (some 21) ?_
        refine on_ 1 (some 22) ?_
        refine on_ 2 (some 23) ?_
        refine tk_ 3 (some 24) ?_
        refine on_ 4 (some 25) ?_
        refine on_ 5 (some 26) ?_
        refine tk_ 6 (some 27) ?_
        refine on_ 7 (some 28) ?_
        refine on_ 8 (some 29) ?_
        refine on_ 9 (some 30) ?_
        refine tk_ 10 (some 31) ?_
        refine on_ 11 (some 32) ?_
        refine on_ 12 (some 33) ?_
        refine tk_ 13 (some 34) ?_
        refine on_ 14 (some 2) ?_
        refine on_ 15 (some 3) ?_
        refine on_ 16 (some 4) ?_
        refine dn_ ?_
        try go_wp2
        go_ret3
        rw [HRW.out, HPW.out]
        have h1 := Sp.weak HS.out (i := 4) (r' := Res.row kI 2 w.heap.size (.slice A1 wy.length c1) wy) rfl (fun fp hp => hp _ HQM.out)
        have h2 := Sp.weak h1 (i := 2) (r' := Res.row kC 69 w.heap.size (.slice A0 o.length c0) o) rfl (fun fp hp => hp _ HPM.out)
        exact ⟨_, _, rfl, Sp.swap (Sp.out (Sp.out (Sp.out (Sp.out h2 5) 3) 1) 0)⟩
end Go.Proofs.Ytlbckkagjekhnaa.A

/- LevelOf and FindExit of both sides. -/
namespace Go.Proofs.Ytlbckkagjekhnaa.A
open Go.RowKit Go.Proofs.YtlbckkagjekhnaaW.PrintWords Go.Proofs.YtlbckkagjekhnaaW.PrintLast Go.Proofs.YtlbckkagjekhnaaW.PrintMore
set_option linter.unusedVariables false
set_option linter.unusedSimpArgs false
theorem pos_visit {n : Nat} {o : List Cb} {wy : List Int} {T T' : List (List Cb × List Int)} {m : Int} (hl : ∀ p ∈ T, p.1.length = n ∧ p.1.any (fun c => !inCb c (-3) 3) = false) (ho : o.length = n) (h : visitW o wy T m = some T') : ∀ p ∈ T', p.1.length = n ∧ p.1.any (fun c => !inCb c (-3) 3) = false := by
  unfold visitW at h
  split at h
  · injection h with h; subst h; exact hl
  · rename_i c
    split at h
    · injection h with h; subst h; exact hl
    · split at h
      · cases h
      · injection h with h
        subst h
        intro p hp
        rcases List.mem_append.1 hp with hp | hp
        · exact hl p hp
        · obtain rfl := List.mem_singleton.1 hp
          exact ⟨by rw [movedP_len]; exact ho, Bool.eq_false_iff.mpr c⟩
theorem pos_fold {n : Nat} {o : List Cb} {wy : List Int} (ho : o.length = n) : ∀ (ms : List Int) {T T' : List (List Cb × List Int)}, (∀ p ∈ T, p.1.length = n ∧ p.1.any (fun c => !inCb c (-3) 3) = false) → ms.foldlM (visitW o wy) T = some T' → ∀ p ∈ T', p.1.length = n ∧ p.1.any (fun c => !inCb c (-3) 3) = false
  | [], T, T', hl, h => by
    have : T = T' := Option.some.inj h
    subst this
    exact hl
  | m :: ms, T, T', hl, h => by
    rw [List.foldlM_cons] at h
    obtain ⟨U, h1, h2⟩ := Option.bind_eq_some_iff.1 h
    exact pos_fold ho ms (pos_visit hl ho h1) h2
theorem search_found (parts : List (List Cb)) (ex : List Cb → Bool) : ∀ (f : Nat) (T : List (List Cb × List Int)) (k : Nat) {T' : List (List Cb × List Int)} {i : Int}, (∀ p ∈ T, p.1.length = parts.length ∧ p.1.any (fun c => !inCb c (-3) 3) = false) → searchW parts ex f T k = some (T', i) → (∀ p ∈ T', p.1.length = parts.length ∧ p.1.any (fun c => !inCb c (-3) 3) = false) ∧ (i = -1 ∨ ∃ j : Nat, i = (j : Int) ∧ j < T'.length ∧ ex (pwAt T' j).1 = true)
  | 0, T, k, T', i, hl, h => by
    injection h with h; injection h with h1 h2
    subst h1; subst h2
    exact ⟨hl, .inl rfl⟩
  | f + 1, T, k, T', i, hl, h => by
    unfold searchW at h
    by_cases c : k < T.length
    · rw [if_pos c] at h
      by_cases e : ex (T.getD k default).1 = true
      · rw [if_pos e] at h
        injection h with h; injection h with h1 h2
        subst h1; subst h2
        exact ⟨hl, .inr ⟨k, rfl, c, e⟩⟩
      · rw [if_neg e] at h
        obtain ⟨U, h1, h2⟩ := Option.bind_eq_some_iff.1 h
        have hm : T.getD k default ∈ T := by
          rw [List.getD_eq_getElem?_getD, List.getElem?_eq_getElem c]
          exact List.getElem_mem c
        exact search_found parts ex f U (k + 1) (pos_fold (hl _ hm).1 _ hl h1) h2
    · rw [if_neg c] at h
      injection h with h; injection h with h1 h2
      subst h1; subst h2
      exact ⟨hl, .inl rfl⟩
/-- What is known of an exit that was found. -/
theorem exitW_found {parts : List (List Cb)} (h : (exitW parts).2.2 = 0) : asmP parts = true ∧ (exitW parts).2.1.length = parts.length ∧ (exitW parts).2.1.any (fun c => !inCb c (-3) 3) = false ∧ 0 < (freeP parts (exitW parts).2.1).length := by
  unfold exitW at h ⊢
  by_cases c : asmP parts = true
  · rw [if_pos c] at h ⊢
    cases hs : searchW parts (exB parts true) 1201 [(zerosC parts.length, [])] 0 with
    | none => rw [hs] at h; simp at h
    | some r =>
      obtain ⟨T, i⟩ := r
      rw [hs] at h
      have hz : ∀ p ∈ [(zerosC parts.length, ([] : List Int))], p.1.length = parts.length ∧ p.1.any (fun c => !inCb c (-3) 3) = false := fun p hp => by
        obtain rfl := List.mem_singleton.1 hp
        refine ⟨List.length_replicate, ?_⟩
        rw [Bool.eq_false_iff]
        intro hc
        obtain ⟨c, hc1, hc2⟩ := List.any_eq_true.1 hc
        rw [List.eq_of_mem_replicate hc1] at hc2
        exact absurd hc2 (by decide)
      obtain ⟨h1, h2⟩ := search_found parts (exB parts true) 1201 _ 0 hz hs
      dsimp only at h ⊢
      by_cases d : i < 0
      · rw [if_pos d] at h; simp at h
      · rw [if_neg d]
        rcases h2 with h2 | ⟨j, h2, h3, h4⟩
        · omega
        · subst h2
          rw [Int.toNat_natCast]
          have hm : pwAt T j ∈ T := by
            unfold pwAt
            rw [List.getD_eq_getElem?_getD, List.getElem?_eq_getElem h3]
            exact List.getElem_mem h3
          refine ⟨c, (h1 _ hm).1, (h1 _ hm).2, ?_⟩
          unfold exB at h4
          rw [Bool.true_and, decide_eq_true_eq] at h4
          exact h4
  · rw [if_neg c] at h; simp at h
theorem exit_same (parts : List (List Cb)) : exitR parts = (if (exitW parts).2.2 = 0 then ((exitW parts).1, (freeP parts (exitW parts).2.1).getD 0 0, 0) else ([], 0, (exitW parts).2.2)) := by
  unfold exitR exitW
  by_cases c : asmP parts = true
  · rw [if_pos c, if_pos c]
    have h := search_rel parts (exB parts true) 1201 _ _ 0 (rel_start parts.length)
    unfold exitX
    cases hx : searchX parts (exB parts true) 1201 [(zerosC parts.length, -1, 0)] 0 with
    | none =>
      cases hw : searchW parts (exB parts true) 1201 [(zerosC parts.length, [])] 0 with
      | none => rfl
      | some r => rw [hx, hw] at h; exact h.elim
    | some s =>
      cases hw : searchW parts (exB parts true) 1201 [(zerosC parts.length, [])] 0 with
      | none => rw [hx, hw] at h; exact h.elim
      | some r =>
        rw [hx, hw] at h
        obtain ⟨S, i⟩ := s
        obtain ⟨T, j⟩ := r
        obtain ⟨h1, h2, h3⟩ := h
        subst h2
        dsimp only
        by_cases d : i < 0
        · simp only [if_pos d]; rfl
        · simp only [if_neg d]
          rcases h3 with h3 | ⟨k, h3, h4⟩
          · omega
          · subst h3
            rw [Int.toNat_natCast, h1.way k h4, h1.at k]
            rfl
  · rw [if_neg c, if_neg c]; rfl
end Go.Proofs.Ytlbckkagjekhnaa.A

/- An exit's way is no longer than the limit. No program in sight. -/
namespace Go.Proofs.Ytlbckkagjekhnaa.A
open Go.RowKit Go.Proofs.YtlbckkagjekhnaaW.PrintWords Go.Proofs.YtlbckkagjekhnaaW.PrintLast Go.Proofs.YtlbckkagjekhnaaW.PrintMore
set_option linter.unusedVariables false
theorem wayF_len (S : List Nd) : ∀ (f j : Nat), (wayF S f j).length ≤ f
  | 0, _ => Nat.le_refl _
  | f + 1, j => by
    unfold wayF
    by_cases c : (ndAt S j).2.1 < 0
    · rw [if_pos c]; exact Nat.zero_le _
    · rw [if_neg c, List.length_append, List.length_singleton]
      have := wayF_len S f (ndAt S j).2.1.toNat
      omega
theorem visit_top {o : List Cb} {k : Int} {S S' : List Nd} {m : Int} (h : visitP o k S m = some S') (hl : S.length ≤ 1200) : S'.length ≤ 1200 := by
  unfold visitP at h
  split at h
  · injection h with h; subst h; exact hl
  · split at h
    · injection h with h; subst h; exact hl
    · split at h
      · cases h
      · injection h with h; subst h; rw [List.length_append, List.length_singleton]; omega
theorem spread_top {o : List Cb} {k : Int} : ∀ (ms : List Int) {S S' : List Nd}, ms.foldlM (visitP o k) S = some S' → S.length ≤ 1200 → S'.length ≤ 1200
  | [], S, S', h, hl => by
    have : S = S' := Option.some.inj h
    subst this
    exact hl
  | m :: ms, S, S', h, hl => by
    rw [List.foldlM_cons] at h
    obtain ⟨T, h1, h2⟩ := Option.bind_eq_some_iff.1 h
    exact spread_top ms h2 (visit_top h1 hl)
theorem searchX_top (parts : List (List Cb)) (ex : List Cb → Bool) : ∀ (f : Nat) (S : List Nd) (k : Nat) {S' : List Nd} {i : Int}, S.length ≤ 1200 → searchX parts ex f S k = some (S', i) → S'.length ≤ 1200 ∧ (i < 0 ∨ i.toNat < S'.length)
  | 0, S, k, S', i, hl, h => by
    injection h with h; injection h with h1 h2
    subst h1; subst h2
    exact ⟨hl, .inl (by omega)⟩
  | f + 1, S, k, S', i, hl, h => by
    unfold searchX at h
    by_cases c : k < S.length
    · rw [if_pos c] at h
      by_cases e : ex (ndAt S k).1 = true
      · rw [if_pos e] at h
        injection h with h; injection h with h1 h2
        subst h1; subst h2
        exact ⟨hl, .inr (by omega)⟩
      · rw [if_neg e] at h
        obtain ⟨U, h1, h2⟩ := Option.bind_eq_some_iff.1 h
        exact searchX_top parts ex f U (k + 1) (spread_top _ h1 hl) h2
    · rw [if_neg c] at h
      injection h with h; injection h with h1 h2
      subst h1; subst h2
      exact ⟨hl, .inl (by omega)⟩
theorem exitR_len (parts : List (List Cb)) : (exitR parts).1.length ≤ 1200 := by
  unfold exitR
  by_cases c : asmP parts = true
  · rw [if_pos c]
    cases hx : exitX parts with
    | none => simp
    | some s =>
      obtain ⟨S, i⟩ := s
      dsimp only
      obtain ⟨h1, h2⟩ := searchX_top parts (exB parts true) 1201 _ 0 (by simp) hx
      by_cases d : i < 0
      · rw [if_pos d]; simp
      · rw [if_neg d]
        have h3 := wayF_len S (i.toNat + 1) i.toNat
        show (wayN S i.toNat).length ≤ 1200
        unfold wayN
        omega
  · rw [if_neg c]; simp
end Go.Proofs.Ytlbckkagjekhnaa.A

/- spec.FindExit, walked. -/
namespace Go.Proofs.Ytlbckkagjekhnaa.A
open Go.RowKit Go.Proofs.YtlbckkagjekhnaaW.PrintWords Go.Proofs.YtlbckkagjekhnaaW.PrintLast Go.Proofs.YtlbckkagjekhnaaW.PrintMore
set_option linter.unusedVariables false
set_option linter.unusedSimpArgs false
def sfeF.T4 : Bool × List (List Nat × List Nat) := (true, [([], []), ([], []), ([], []), ([1, 2], [1, 2]), ([3], [3]), ([4], [4]), ([0, 3, 0], [0]), ([5, 6, 0, 1, 2, 3, 4, 5, 6], [5]), ([7, 0, 1, 2, 3, 4, 5, 6, 7], [])])
def sfeF.B4 : List Nat := [0, 0, 0, 6, 14, 30, 15, 127, 255]
theorem sfeF.tab4 : rtab .any (opsOf Try.f32 4) = sfeF.T4 := by kernel_rfl
theorem sfeF.bits4 : waitsOk sfeF.T4.2 sfeF.B4 = true := by kernel_rfl
set_option maxHeartbeats 4000000 in
set_option maxRecDepth 100000 in
theorem sFind_calls (Ap : Option Addr) (cp : Nat) (parts : List (List Cb)) (w : World) (hC : kP.C w Ap parts.length parts) (hcp : parts.length ≤ cp) (hz : SzOk parts) :
    Calls Try.prog 32 #[.agg #[.slice Ap parts.length cp]] w fun e w' => ∃ v_ : Value, e = .returned (.tuple #[v_, .int .i64 (exitR parts).2.1, .int .i64 (exitR parts).2.2]) ∧ kI.R 2 w' w.heap.size (fun _ => True) v_ (exitR parts).1 ∧ Below w.heap.size w w' := by
  have hu32 := Try.underlying32
  have HS := A0_ (Sp.start w)
  have HFE := A0_ (fun w' (hb : Below w.heap.size w w') => sExit_calls Ap cp parts w' (Kd.C_below hC hb) hcp hz)
  have HLV := A0_ (exit_same parts)
  have hfd := fun h => exitW_found (parts := parts) h
  obtain ⟨LV, hLV⟩ : ∃ LV, LV = exitR parts := ⟨_, rfl⟩
  rw [← hLV] at HLV ⊢
  obtain ⟨wy, o, cd, hx⟩ : ∃ wy o cd, exitW parts = (wy, o, cd) := ⟨_, _, _, rfl⟩
  rw [hx] at HFE HLV hfd
  dsimp only at HFE HLV hfd
  by_cases hc : cd = 0
  · subst hc
    obtain ⟨h1, h2, h3, h4⟩ := hfd rfl
    obtain ⟨KF, hKF⟩ := sfree_at hz h1 o h2 h3
    obtain ⟨fs, hfs⟩ : ∃ fs, fs = freeP parts o := ⟨_, rfl⟩
    obtain ⟨f0, hf0⟩ : ∃ f0, f0 = fs.getD 0 0 := ⟨_, rfl⟩
    have HL := A0_ (show LV = (wy, f0, 0) by rw [HLV.out, if_pos rfl, hf0, hfs])
    rw [← hfs] at hKF h4
    have HKF := A0_ hKF
    have HNE := A0_ h4
    have HF0 := A0_ (show Value.int .i64 (fs.getD 0 0) = .int .i64 f0 by rw [hf0])
    have HC := A0_ hC
    have HCP := A0_ hcp
    have p0 : ((0 : Int) < (fs.length : Int)) = True := eq_true (by omega)
    have p1 : (0 < fs.length) = True := eq_true h4
    clear HLV hfd hC hcp hz hx hLV h1 h2 h3 h4 hKF hfs hf0
    go_enter Try.func32, Try.ntmps32
    go_wp2_with (first
      | ((with_reducible refine gate_dst (N := 1) rfl ?_); go_loud (refine box_event ?hg (N := 1) ?hd (cs := #[.slice Ap parts.length cp]) (t := 32) ?hr ?_; (case hd => rfl); (case hg => rfl); (case hr => first | (go_simp; done) | (go_simp; rfl)); intro ga hgb_ wb_ hcb_ hbb_; have HS_ := A0_ (Sp.boxed HS.out hgb_ hcb_ hbb_); clear HS; have HS := HS_; clear HS_; clear hgb_ hcb_ hbb_; have ha0 := (blk_cell (Sp.blk HS.out (i := 0) rfl).1 0).trans rfl))
      | (go_at_call 59; refine (HFE.out _ HS.out.below).mono ?_; rintro e wi_ ⟨vi_, vo_, rfl, hs_⟩; obtain ⟨Aw, cw, rfl⟩ := Sp.slice hs_ (i := 0) rfl; obtain ⟨Ao, co, rfl⟩ := Sp.slice hs_ (i := 1) rfl; have HS_ := A0_ (Sp.made2 HS.out hs_); clear HS; have HS := HS_; clear HS_; clear hs_ ha0))
    have HS_ := A0_ (show Sp w ([Res.row kC 69 w.heap.size (.slice Ao o.length co) o, Res.row kI 2 w.heap.size (.slice Aw wy.length cw) wy, Res.blk ga #[.slice Ap parts.length cp] 32] ++ ([] : List Res)) wi_.drew from Sp.drew (Sp.swap HS.out))
    clear HS
    have HS := HS_
    clear HS_
    refine start_ (n := 9) (S := fun w' => w'.cell? ⟨ga, 0, none⟩ = some (.slice Ap parts.length cp)) (ds := []) #[false, false, false, false, false, false, false, false, false] (by kernel_rfl) rfl rfl ((blk_cell (Sp.blk HS.out (i := 2) rfl).1 0).trans rfl) (fun hHeld => ?_)
    refine with_tabW sfeF.tab4 sfeF.bits4 (fun HT_ HW_ => ?_)
    generalize wi_.drew = wD at HS hHeld ⊢
    refine on_ 0 (some 17) ?_
    refine tk_ 1 (some 18) ?_
    refine on_ 2 (some 19) ?_
    refine o1_ 3 (some 20) (fun K hK => ?_)
    refine goes_ Try.func65 (by kernel_rfl) rfl #[.agg #[.slice Ap parts.length cp], .slice Ao o.length co] (by rfl) rfl rfl (by (try simp only [List.map_toArray, List.map_cons, List.map_nil]); first | done | rfl | (simp only [List.length_drop, List.length_take]; rfl)) ?_
    refine (spec_l27Free.calls KF Ap cp parts Ao co o fs _ (Kd.C_below HC.out HS.out.below) HCP.out (Sp.reads HS.out (i := 0) rfl).2.2 (Sp.reads HS.out (i := 0) rfl).2.1 HKF.out).mono ?_
    rintro e wA11 ⟨vA11, rfl, ho, hb⟩
    refine ⟨_, rfl, ?_⟩
    have HS_ := A0_ (Sp.made' HS.out hb ho)
    clear HS
    have HS := HS_
    clear HS_
    clear hb ho
    obtain ⟨AA11, cA11, rfl⟩ := Sp.slice HS.out (i := 0) rfl
    obtain ⟨adf, ef_, _⟩ := Kd.at_int (Sp.reads HS.out (i := 0) rfl).2.2 (0 : Int) (by omega) (by have := HNE.out; omega)
    subst ef_
    refine hK.out _ _ ((blk_cell (Sp.blk HS.out (i := 3) rfl).1 0).trans rfl) (fun hHeld => ?_)
    clear hK K
    refine nm_ (some 20) ?_
    refine on_ 4 (some 21) ?_
    refine on_ 6 (some 2) ?_
    refine o1_ 5 (some 22) (fun K hK => ?_)
    have hf0_ := (HF0.out ▸ Sp.intCell0 HS.out (i := 0) rfl HNE.out)
    refine event_step (v := .int .i64 f0) (w1 := wA11) (by rfl) (by first | (go_simp; done) | (go_simp; rfl)) ?_
    clear hf0_
    refine hK.out _ _ ((blk_cell (Sp.blk HS.out (i := 3) rfl).1 0).trans rfl) (fun hHeld => ?_)
    clear hK K
    refine nm_ (some 22) ?_
    refine on_ 7 (some 3) ?_
    refine on_ 8 (some 4) ?_
    refine dn_ ?_
    have HS_ := A0_ (Sp.arr (pre := [Res.row kI 2 w.heap.size (.slice (some adf) (fs).length cA11) (fs), Res.row kC 69 w.heap.size (.slice Ao o.length co) o, Res.row kI 2 w.heap.size (.slice Aw wy.length cw) wy, Res.blk ga #[.slice Ap parts.length cp] 32]) (pre' := [Res.row kI 2 w.heap.size (.slice Aw wy.length cw) wy, Res.row kC 69 w.heap.size (.slice Ao o.length co) o, Res.blk ga #[.slice Ap parts.length cp] 32, Res.row kI 2 w.heap.size (.slice (some adf) (fs).length cA11) (fs)]) (rest := ([] : List Res)) [2, 1, 3, 0] HS.out rfl rfl)
    clear HS
    have HS := HS_
    clear HS_
    try go_wp2
    go_ret3
    rw [HL.out]
    obtain ⟨fp_, hp_, _⟩ := Sp.get HS.out (i := 0) rfl
    exact ⟨_, rfl, Kd.R_mono hp_ (fun _ _ => trivial), HS.out.below⟩
  · have HL := A0_ (show LV = ([], 0, cd) by rw [HLV.out]; exact if_neg hc)
    have c0 : (cd == 0) = false := by rw [beq_eq_false_iff_ne]; exact hc
    have c1 : (cd != 0) = true := by rw [bne_iff_ne]; exact hc
    have c2 : (cd = 0) = False := eq_false hc
    clear HLV hfd hc hC hcp hz hx hLV
    go_enter Try.func32, Try.ntmps32
    go_wp2_with (first
      | ((with_reducible refine gate_dst (N := 1) rfl ?_); go_loud (refine box_event ?hg (N := 1) ?hd (cs := #[.slice Ap parts.length cp]) (t := 32) ?hr ?_; (case hd => rfl); (case hg => rfl); (case hr => first | (go_simp; done) | (go_simp; rfl)); intro ga hgb_ wb_ hcb_ hbb_; have HS_ := A0_ (Sp.boxed HS.out hgb_ hcb_ hbb_); clear HS; have HS := HS_; clear HS_; clear hgb_ hcb_ hbb_; have ha0 := (blk_cell (Sp.blk HS.out (i := 0) rfl).1 0).trans rfl))
      | (go_at_call 59; refine (HFE.out _ HS.out.below).mono ?_; rintro e wi_ ⟨vi_, vo_, rfl, hs_⟩; have HS_ := A0_ (Sp.far HS.out hs_.below); clear HS; have HS := HS_; clear HS_; clear hs_ ha0))
    go_ret3
    rw [HL.out]
    exact ⟨_, rfl, Kd.R_nil kI 2 _ _ _, HS.out.below⟩
end Go.Proofs.Ytlbckkagjekhnaa.A

namespace Go.Proofs.Ytlbckkagjekhnaa.A
open Go.RowKit Go.Proofs.YtlbckkagjekhnaaW.PrintWords Go.Proofs.YtlbckkagjekhnaaW.PrintLast Go.Proofs.YtlbckkagjekhnaaW.PrintMore
attribute [local go_sem] max2_int min2_int max_two min_two max_three min_three max_four min_four   -- for this text's walks alone
set_option linter.unusedVariables false
set_option linter.unusedSimpArgs false
def laws_markInt64S.l0 : Nat → List Int → Int → Int → Option (Int × List Int)
  | 0, _, _, _ => none
  | k + 1, x0, x1, x5 => if x5 < (x0.length : Int) then (if 0 ≤ x5 then (laws_markInt64S.l0 k (x0.set (x5 : Int).toNat x1) (wrap64 (x1 + 1)) (wrap64 (x5 + 1))) else (none)) else (some (x1, x0))
def laws_markInt64S.f (k : Nat) (l0 : List Int) (a1 : Int) : Option (Int × List Int) := laws_markInt64S.l0 k l0 a1 0
set_option maxHeartbeats 8000000 in
set_option maxRecDepth 100000 in
theorem laws_markInt64S.calls (k : Nat) (P0_ : Nat → Prop) (u9000_ : Value) (l0 : List Int) (a1 : Int) (r1 : Int) (r2 : List Int) (w0 w : World) (hB : Below w0.heap.size w0 w) (ho0 : Kd.R (Kd.int .i64) 2 w w0.heap.size P0_ u9000_ l0) (h : laws_markInt64S.f k l0 a1 = some (r1, r2)) :
    Calls Try.prog 35 #[u9000_, .int .i64 a1] w fun e w' => e = .returned (.int .i64 r1) ∧ Kd.R (Kd.int .i64) 2 w' w0.heap.size (fun k_ => (P0_ k_ ∨ w.heap.size ≤ k_)) u9000_ r2 ∧ Below w0.heap.size w0 w' ∧ Kept w w' (fun k_ => P0_ k_) := by
 have HO0 := A0_ (show Kd.R (Kd.int .i64) 2 w w0.heap.size (fun k_ => (P0_ k_ ∨ w.heap.size ≤ k_)) u9000_ l0 from Kd.R_mono ho0 (fun k_ hk => (.inl hk)))
 have HK := A0_ (Kept.refl w (fun k_ => P0_ k_))
 (have HW0 := A0_ hB.size); (have HB := A0_ hB); clear hB; (have H : (laws_markInt64S.l0 k l0 a1 0) = some (r1, r2) := h); clear h; (have H' := A0_ H); clear H; (go_enter Try.func35, Try.ntmps35); go_wp2
 go_loopg [1, 5] k (fun kq v1 v5 w' => ∃ (x0_1 : List Int) (x1_1 : Int) (x5_1 : Int), v1 = .int .i64 x1_1 ∧ v5 = .int .i64 x5_1 ∧ Aside0 (laws_markInt64S.l0 kq x0_1 x1_1 x5_1 = some (r1, r2)) ∧ Aside0 (kq ≤ k) ∧ Aside0 (Kd.R (Kd.int .i64) 2 w' w0.heap.size (fun k_ => (P0_ k_ ∨ w.heap.size ≤ k_)) u9000_ x0_1) ∧ Aside0 (Kept w w' (fun k_ => P0_ k_)) ∧ Aside0 (Below w0.heap.size w0 w'))
 case atStart => exact ⟨(l0), (a1), (0), (by first | rfl | (simp; done) | (simp [*]; done)), (by first | rfl | (simp; done) | (simp [*]; done)), H', ⟨Nat.le_refl _⟩, ⟨by (with_reducible repeat (first | apply Ra_ | apply Rn_ | apply Rd_)); exact HO0.out⟩, ⟨by repeat (first | (with_reducible first | exact HK.out | apply Kept.alloc | apply Kept.drewN | apply Kept.drew) | exact HK.out)⟩, ⟨by repeat (first | (with_reducible first | exact HB.out | apply ba_ | apply bn_ | apply bd_) | exact HB.out)⟩⟩
 case round =>
  clear H'; (try clear p2); (obtain ⟨x0_1, x1_1, x5_1, rfl, rfl, HA, HK1, HO_0, HK, HB⟩ := hrel)
  cases gk with
  | zero => exact absurd HA.out (by simp [laws_markInt64S.l0])
  | succ k1 =>
   (have H := HA.out); clear HA; (simp only [laws_markInt64S.l0] at H); (by_cases c3 : x5_1 < (x0_1.length : Int))
   ·(rw [if_pos c3] at H); (have c3b0 : decide (x5_1 < (x0_1.length : Int)) = true := decide_eq_true c3); clear c3; (by_cases c4 : 0 ≤ x5_1)
    ·(rw [if_pos c4] at H); (have c4b0 : decide (0 ≤ x5_1) = true := decide_eq_true c4); clear c4; (obtain ⟨y605, hy605⟩ : ∃ y_ : List Int, y_ = (x0_1.set (x5_1 : Int).toNat x1_1) := ⟨_, rfl⟩); (replace H : (laws_markInt64S.l0 k1 y605 (wrap64 (x1_1 + 1)) (wrap64 (x5_1 + 1))) = some (r1, r2) := by first | (rw [hy605]; with_reducible exact H) | (have H2_ := (Option.bind_some _ _).symm.trans H; rw [hy605]; with_reducible exact H2_) | (have H2_ := (Option.bind_some _ _).symm.trans H; with_reducible exact H2_) | with_reducible exact H | (rw [hy605]; exact H) | exact H); (have Ny605 := A0_ hy605); clear hy605; (have H' := A0_ H); clear H; (obtain ⟨Ao6, co6, eo6⟩ := Kd.R_slice HO_0.out); subst eo6; (have p5 : 0 ≤ (x5_1 : Int) := of_decide_eq_true (by first | (with_reducible assumption) | assumption)); (have q5 : (x5_1 : Int) < ((x0_1.length : Int) : Int) := of_decide_eq_true (by first | (with_reducible assumption) | assumption)); (obtain ⟨go5, co5, eo5, gb5, gl5, cl5, HG5⟩ := Kd.R_form HO_0.out (by omega)); ((first | cases eo5 | (injection eo5 with ea_ en_ ec_; (first | subst ea_ | (injection ea_ with ea_; subst ea_)); subst ec_; clear en_))); (have GB5 := A0_ gb5); (have GG5 := A0_ HG5); clear gb5 gl5 HG5; (have HMgo5 := A0_ (show (P0_ go5 ∨ w.heap.size ≤ go5) from (HO_0.out.1 _ rfl))); (obtain ⟨hx5_0, hf5_0⟩ := Kd.R_celln 0 HO_0.out (x5_1 : Int) p5 q5); (replace p5 := eq_true p5); (replace q5 := eq_true q5); (have HP7 := Kd.R_putg HO_0.out (x5_1 : Int) x1_1)
     go_wp2_with (first | ((with_reducible refine gate_store (t := 2) (p := 15) rfl ?_); refine store_event (t := 2) (p := 15) (v := ?vo_w8) (w1 := (wr.setCell ⟨go5, (x5_1 : Int).toNat, none⟩ (.int .i64 x1_1))) ?hg ?ho ?hn ?hr ?_; (case ho => rfl); (case hg => rfl); (case hn => rfl); (case hr => first | (go_simp; done) | (go_simp; rfl)); intro w8 hw; have hg : wr.grownBy w8 (some go5) := (by rw [hw]; exact HP7.2); have hp_ : Kd.R (Kd.int .i64) 2 w8 w0.heap.size (fun k_ => (P0_ k_ ∨ w.heap.size ≤ k_)) (.slice (some ⟨go5, 0, none⟩) x0_1.length co6) y605 := (by rw [hw, Ny605.out]; exact HP7.1); clear HP7; have n0_ := A0_ (hp_); have n1_ := A0_ ((by rw [hw]; exact below_set (HB.out) GB5.out : Below w0.heap.size w0 w8)); have n2_ := A0_ (Kept.of_grown (S := (fun k_ => P0_ k_)) hg (by repeat (first | (with_reducible first | exact HK.out | apply Kept.alloc | apply Kept.drewN | apply Kept.drew) | exact HK.out)) (fun k_ e_ => (HO_0.out.1 k_ e_))); clear HO_0; clear HB; clear HK; have HO_0 := n0_; have HB := n1_; have HK := n2_; clear n0_ n1_ n2_; clear hg hw hp_))
     (go_roundg k1)
     case measure => have := HK1.out; omega
     case rel => exact ⟨(y605), (wrap64 (x1_1 + 1)), (wrap64 (x5_1 + 1)), (by first | rfl | (simp; done) | (simp [*]; done)), (by first | rfl | (simp; done) | (simp [*]; done)), H', ⟨by have := HK1.out; omega⟩, ⟨by (with_reducible repeat (first | apply Ra_ | apply Rn_ | apply Rd_)); exact HO_0.out⟩, ⟨by repeat (first | (with_reducible first | exact HK.out | apply Kept.alloc | apply Kept.drewN | apply Kept.drew) | exact HK.out)⟩, ⟨by repeat (first | (with_reducible first | exact HB.out | apply ba_ | apply bn_ | apply bd_) | exact HB.out)⟩⟩
    ·(rw [if_neg c4] at H); (exact absurd H (by simp))
   ·(rw [if_neg c3] at H); (have c3b0 : decide (x5_1 < (x0_1.length : Int)) = false := decide_eq_false c3); clear c3; (simp only [Option.some.injEq, Prod.mk.injEq] at H); (obtain ⟨rfl, rfl⟩ := H); (obtain ⟨Ao9, co9, eo9⟩ := Kd.R_slice HO_0.out); subst eo9; go_wp2; go_ret; (exact ⟨by first | rfl | (simp [errW_none, errW_some] <;> rfl) | (simp [*, errW_none, errW_some] <;> rfl), by (with_reducible repeat (first | apply Ra_ | apply Rn_ | apply Rd_)); exact HO_0.out, by repeat (first | (with_reducible first | exact HB.out | apply ba_ | apply bn_ | apply bd_) | exact HB.out), by repeat (first | (with_reducible first | exact HK.out | apply Kept.alloc | apply Kept.drewN | apply Kept.drew) | exact HK.out)⟩)
end Go.Proofs.Ytlbckkagjekhnaa.A

namespace Go.Proofs.Ytlbckkagjekhnaa.A
open Go.RowKit Go.Proofs.YtlbckkagjekhnaaW.PrintWords Go.Proofs.YtlbckkagjekhnaaW.PrintLast Go.Proofs.YtlbckkagjekhnaaW.PrintMore
attribute [local go_sem] max2_int min2_int max_two min_two max_three min_three max_four min_four   -- for this text's walks alone
set_option linter.unusedVariables false
set_option linter.unusedSimpArgs false
def laws_heldInt64S.l0 : Nat → List Int → Int → Int → Option (Int)
  | 0, _, _, _ => none
  | k + 1, x0, x1, x5 => if x5 < (x0.length : Int) then (if 0 ≤ x5 then (if (rd x0 x5) = x1 then (laws_heldInt64S.l0 k x0 (wrap64 (x1 + 1)) (wrap64 (x5 + 1))) else (some (-1))) else (none)) else (some x1)
def laws_heldInt64S.f (k : Nat) (l0 : List Int) (a1 : Int) : Option (Int) := laws_heldInt64S.l0 k l0 a1 0
set_option maxHeartbeats 8000000 in
set_option maxRecDepth 100000 in
theorem laws_heldInt64S.calls (k : Nat) (A0 : Option Addr) (c0 : Nat) (l0 : List Int) (a1 : Int) (r : Int) (w : World) (hr0 : Kd.C (Kd.int .i64) w A0 l0.length l0) (hc0 : l0.length ≤ c0) (h : laws_heldInt64S.f k l0 a1 = some r) :
    Calls Try.prog 36 #[.slice A0 l0.length c0, .int .i64 a1] w fun e w' => e = .returned (.int .i64 r) ∧ Drawn0 w w' := by
 (have HR0 := A0_ hr0); (have HC0 := A0_ hc0); clear hr0 hc0; (have H : (laws_heldInt64S.l0 k l0 a1 0) = some r := h); clear h; (have H' := A0_ H); clear H; (go_enter Try.func36, Try.ntmps36); go_wp2
 go_loopg [1, 5] k (fun kq v1 v5 w' => ∃ (x1_1 : Int) (x5_1 : Int), v1 = .int .i64 x1_1 ∧ v5 = .int .i64 x5_1 ∧ Aside0 (laws_heldInt64S.l0 kq l0 x1_1 x5_1 = some r) ∧ Aside0 (kq ≤ k) ∧ Drawn0 w w')
 case atStart => exact ⟨(a1), (0), (by first | rfl | (simp; done) | (simp [*]; done)), (by first | rfl | (simp; done) | (simp [*]; done)), H', ⟨Nat.le_refl _⟩, by repeat (first | exact Drawn0.refl _ | apply Drawn0.step)⟩
 case round =>
  clear H'; (try clear p2); (obtain ⟨x1_1, x5_1, rfl, rfl, HA, HK1, ⟨m1, rfl⟩⟩ := hrel)
  cases gk with
  | zero => exact absurd HA.out (by simp [laws_heldInt64S.l0])
  | succ k1 =>
   (have H := HA.out); clear HA; (simp only [laws_heldInt64S.l0] at H); (by_cases c3 : x5_1 < (l0.length : Int))
   ·(rw [if_pos c3] at H); (have c3b0 : decide (x5_1 < (l0.length : Int)) = true := decide_eq_true c3); clear c3; (by_cases c4 : 0 ≤ x5_1)
    ·(rw [if_pos c4] at H); (have c4b0 : decide (0 ≤ x5_1) = true := decide_eq_true c4); clear c4; (by_cases c5 : (rd l0 x5_1) = x1_1)
     ·(rw [if_pos c5] at H); (have c5b0 : ((rd l0 x5_1) == x1_1) = true := beq_iff_eq.mpr c5); (have c5b1 : ((rd l0 x5_1) != x1_1) = false := bne_eq_false_iff_eq.mpr c5); clear c5; (have H' := A0_ H); clear H; (have p606 : 0 ≤ (x5_1 : Int) := of_decide_eq_true (by first | (with_reducible assumption) | assumption)); (have q606 : x5_1 < (l0.length : Int) := of_decide_eq_true (by first | (with_reducible assumption) | assumption)); (obtain ⟨ad606, e606, hx606_0⟩ := Kd.at_int HR0.out x5_1 p606 q606); (cases e606); (replace p606 := eq_true p606); (replace q606 := eq_true q606); go_wp2; (go_roundg k1)
      case measure => have := HK1.out; omega
      case rel => exact ⟨(wrap64 (x1_1 + 1)), (wrap64 (x5_1 + 1)), (by first | rfl | (simp; done) | (simp [*]; done)), (by first | rfl | (simp; done) | (simp [*]; done)), H', ⟨by have := HK1.out; omega⟩, by repeat (first | exact Drawn0.refl _ | apply Drawn0.step)⟩
     ·(rw [if_neg c5] at H); (have c5b0 : ((rd l0 x5_1) == x1_1) = false := beq_eq_false_iff_ne.mpr c5); (have c5b1 : ((rd l0 x5_1) != x1_1) = true := bne_iff_ne.mpr c5); (obtain rfl := Option.some.inj H); (have p606 : 0 ≤ (x5_1 : Int) := of_decide_eq_true (by first | (with_reducible assumption) | assumption)); (have q606 : x5_1 < (l0.length : Int) := of_decide_eq_true (by first | (with_reducible assumption) | assumption)); (obtain ⟨ad606, e606, hx606_0⟩ := Kd.at_int HR0.out x5_1 p606 q606); (cases e606); (replace p606 := eq_true p606); (replace q606 := eq_true q606); go_wp2; go_ret; (exact ⟨by first | rfl | (simp; done) | (simp [*]; done), by repeat (first | exact Drawn0.refl _ | apply Drawn0.step)⟩)
    ·(rw [if_neg c4] at H); (exact absurd H (by simp))
   ·(rw [if_neg c3] at H); (have c3b0 : decide (x5_1 < (l0.length : Int)) = false := decide_eq_false c3); clear c3; (obtain rfl := Option.some.inj H); go_wp2; go_ret; (exact ⟨by first | rfl | (simp; done) | (simp [*]; done), by repeat (first | exact Drawn0.refl _ | apply Drawn0.step)⟩)
end Go.Proofs.Ytlbckkagjekhnaa.A

namespace Go.Proofs.Ytlbckkagjekhnaa.A
open Go.RowKit Go.Proofs.YtlbckkagjekhnaaW.PrintWords Go.Proofs.YtlbckkagjekhnaaW.PrintLast Go.Proofs.YtlbckkagjekhnaaW.PrintMore
attribute [local go_sem] max2_int min2_int max_two min_two max_three min_three max_four min_four   -- for this text's walks alone
set_option linter.unusedVariables false
set_option linter.unusedSimpArgs false
def laws_eqInt64S.l0 : Nat → List Int → List Int → Int → Option (Bool)
  | 0, _, _, _ => none
  | k + 1, x0, x1, x5 => if x5 < (x0.length : Int) then (if 0 ≤ x5 then (if x5 < (x1.length : Int) then (if (rd x0 x5) = (rd x1 x5) then (laws_eqInt64S.l0 k x0 x1 (wrap64 (x5 + 1))) else (some false)) else (none)) else (none)) else (some true)
def laws_eqInt64S.f (k : Nat) (l0 : List Int) (l1 : List Int) : Option (Bool) := if (l0.length : Int) = (l1.length : Int) then (laws_eqInt64S.l0 k l0 l1 0) else (some false)
set_option maxHeartbeats 8000000 in
set_option maxRecDepth 100000 in
theorem laws_eqInt64S.calls (k : Nat) (A0 : Option Addr) (c0 : Nat) (l0 : List Int) (A1 : Option Addr) (c1 : Nat) (l1 : List Int) (r : Bool) (w : World) (hr0 : Kd.C (Kd.int .i64) w A0 l0.length l0) (hc0 : l0.length ≤ c0) (hr1 : Kd.C (Kd.int .i64) w A1 l1.length l1) (hc1 : l1.length ≤ c1) (h : laws_eqInt64S.f k l0 l1 = some r) :
    Calls Try.prog 34 #[.slice A0 l0.length c0, .slice A1 l1.length c1] w fun e w' => e = .returned (.bool r) ∧ Drawn0 w w' := by
 (have HR0 := A0_ hr0); (have HC0 := A0_ hc0); clear hr0 hc0; (have HR1 := A0_ hr1); (have HC1 := A0_ hc1); clear hr1 hc1; (have H : (if (l0.length : Int) = (l1.length : Int) then (laws_eqInt64S.l0 k l0 l1 0) else (some false)) = some r := h); clear h; (by_cases c3 : (l0.length : Int) = (l1.length : Int))
 ·(rw [if_pos c3] at H); (have c3b0 : ((l0.length : Int) == (l1.length : Int)) = true := beq_iff_eq.mpr c3); (have c3b1 : ((l0.length : Int) != (l1.length : Int)) = false := bne_eq_false_iff_eq.mpr c3); (have c3b2 : (l0.length == l1.length) = true := by first | simpa using c3 | (simp at c3 ⊢; omega)); clear c3; (have H' := A0_ H); clear H; (go_enter Try.func34, Try.ntmps34); go_wp2; (repeat (go_quiet (fail); try go_wp2))
  go_loopg [5] k (fun kq v5 w' => ∃ (x5_1 : Int), v5 = .int .i64 x5_1 ∧ Aside0 (laws_eqInt64S.l0 kq l0 l1 x5_1 = some r) ∧ Aside0 (kq ≤ k) ∧ Drawn0 w w')
  case atStart => exact ⟨(0), (by first | rfl | (simp; done) | (simp [*]; done)), H', ⟨Nat.le_refl _⟩, by repeat (first | exact Drawn0.refl _ | apply Drawn0.step)⟩
  case round =>
   clear H'; (try clear c1); (try clear p2); (try clear c3); (try clear c3b0); (try clear c3b1); (try clear c3b2); (obtain ⟨x5_1, rfl, HA, HK1, ⟨m1, rfl⟩⟩ := hrel)
   cases gk with
   | zero => exact absurd HA.out (by simp [laws_eqInt64S.l0])
   | succ k1 =>
    (have H := HA.out); clear HA; (simp only [laws_eqInt64S.l0] at H); (by_cases c4 : x5_1 < (l0.length : Int))
    ·(rw [if_pos c4] at H); (have c4b0 : decide (x5_1 < (l0.length : Int)) = true := decide_eq_true c4); clear c4; (by_cases c5 : 0 ≤ x5_1)
     ·(rw [if_pos c5] at H); (have c5b0 : decide (0 ≤ x5_1) = true := decide_eq_true c5); clear c5; (by_cases c6 : x5_1 < (l1.length : Int))
      ·(rw [if_pos c6] at H); (have c6b0 : decide (x5_1 < (l1.length : Int)) = true := decide_eq_true c6); clear c6; (by_cases c7 : (rd l0 x5_1) = (rd l1 x5_1))
       ·(rw [if_pos c7] at H); (have c7b0 : ((rd l0 x5_1) == (rd l1 x5_1)) = true := beq_iff_eq.mpr c7); (have c7b1 : ((rd l0 x5_1) != (rd l1 x5_1)) = false := bne_eq_false_iff_eq.mpr c7); clear c7; (have H' := A0_ H); clear H; (have p579 : 0 ≤ (x5_1 : Int) := of_decide_eq_true (by first | (with_reducible assumption) | assumption)); (have q579 : x5_1 < (l0.length : Int) := of_decide_eq_true (by first | (with_reducible assumption) | assumption)); (obtain ⟨ad579, e579, hx579_0⟩ := Kd.at_int HR0.out x5_1 p579 q579); (cases e579); (replace p579 := eq_true p579); (replace q579 := eq_true q579); (have p580 : 0 ≤ (x5_1 : Int) := of_decide_eq_true (by first | (with_reducible assumption) | assumption)); (have q580 : x5_1 < (l1.length : Int) := of_decide_eq_true (by first | (with_reducible assumption) | assumption)); (obtain ⟨ad580, e580, hx580_0⟩ := Kd.at_int HR1.out x5_1 p580 q580); (cases e580); (replace p580 := eq_true p580); (replace q580 := eq_true q580); go_wp2; (repeat (go_quiet (fail); try go_wp2)); (go_roundg k1)
        case measure => have := HK1.out; omega
        case rel => exact ⟨(wrap64 (x5_1 + 1)), (by first | rfl | (simp; done) | (simp [*]; done)), H', ⟨by have := HK1.out; omega⟩, by repeat (first | exact Drawn0.refl _ | apply Drawn0.step)⟩
       ·(rw [if_neg c7] at H); (have c7b0 : ((rd l0 x5_1) == (rd l1 x5_1)) = false := beq_eq_false_iff_ne.mpr c7); (have c7b1 : ((rd l0 x5_1) != (rd l1 x5_1)) = true := bne_iff_ne.mpr c7); (obtain rfl := Option.some.inj H); (have p579 : 0 ≤ (x5_1 : Int) := of_decide_eq_true (by first | (with_reducible assumption) | assumption)); (have q579 : x5_1 < (l0.length : Int) := of_decide_eq_true (by first | (with_reducible assumption) | assumption)); (obtain ⟨ad579, e579, hx579_0⟩ := Kd.at_int HR0.out x5_1 p579 q579); (cases e579); (replace p579 := eq_true p579); (replace q579 := eq_true q579); (have p580 : 0 ≤ (x5_1 : Int) := of_decide_eq_true (by first | (with_reducible assumption) | assumption)); (have q580 : x5_1 < (l1.length : Int) := of_decide_eq_true (by first | (with_reducible assumption) | assumption)); (obtain ⟨ad580, e580, hx580_0⟩ := Kd.at_int HR1.out x5_1 p580 q580); (cases e580); (replace p580 := eq_true p580); (replace q580 := eq_true q580); go_wp2; (repeat (go_quiet (fail); try go_wp2)); go_ret; (exact ⟨by first | rfl | (simp; done) | (simp [*]; done), by repeat (first | exact Drawn0.refl _ | apply Drawn0.step)⟩)
      ·(rw [if_neg c6] at H); (exact absurd H (by simp))
     ·(rw [if_neg c5] at H); (exact absurd H (by simp))
    ·(rw [if_neg c4] at H); (have c4b0 : decide (x5_1 < (l0.length : Int)) = false := decide_eq_false c4); clear c4; (obtain rfl := Option.some.inj H); go_wp2; (repeat (go_quiet (fail); try go_wp2)); go_ret; (exact ⟨by first | rfl | (simp; done) | (simp [*]; done), by repeat (first | exact Drawn0.refl _ | apply Drawn0.step)⟩)
 ·(rw [if_neg c3] at H); (have c3b0 : ((l0.length : Int) == (l1.length : Int)) = false := beq_eq_false_iff_ne.mpr c3); (have c3b1 : ((l0.length : Int) != (l1.length : Int)) = true := bne_iff_ne.mpr c3); (have c3b2 : (l0.length == l1.length) = false := by first | simpa using c3 | (simp at c3 ⊢; omega)); (obtain rfl := Option.some.inj H); (go_enter Try.func34, Try.ntmps34); go_wp2; (repeat (go_quiet (fail); try go_wp2)); go_ret; (exact ⟨by first | rfl | (simp; done) | (simp [*]; done), by repeat (first | exact Drawn0.refl _ | apply Drawn0.step)⟩)
end Go.Proofs.Ytlbckkagjekhnaa.A

namespace Go.Proofs.Ytlbckkagjekhnaa.A
open Go.RowKit Go.Proofs.YtlbckkagjekhnaaW.PrintWords Go.Proofs.YtlbckkagjekhnaaW.PrintLast Go.Proofs.YtlbckkagjekhnaaW.PrintMore
attribute [local go_sem] max2_int min2_int max_two min_two max_three min_three max_four min_four   -- for this text's walks alone
set_option linter.unusedVariables false
set_option linter.unusedSimpArgs false
def laws_markCubeS.l0 : Nat → List (S69) → Int → Int → Option (Int × (List (S69)))
  | 0, _, _, _ => none
  | k + 1, x0, x1, x5 => if x5 < (x0.length : Int) then (if 0 ≤ x5 then ((some (x0.set (x5 : Int).toNat (⟨x1, (rd_T69 x0 x5).f1, (rd_T69 x0 x5).f2⟩ : S69) : List (S69))).bind fun y332 => ((some (y332.set (x5 : Int).toNat (⟨(rd_T69 y332 x5).f0, wrap64 (x1 + 1), (rd_T69 y332 x5).f2⟩ : S69) : List (S69))).bind fun y333 => (laws_markCubeS.l0 k (y333.set (x5 : Int).toNat (⟨(rd_T69 y333 x5).f0, (rd_T69 y333 x5).f1, wrap64 ((wrap64 (x1 + 1)) + 1)⟩ : S69)) (wrap64 ((wrap64 ((wrap64 (x1 + 1)) + 1)) + 1)) (wrap64 (x5 + 1))))) else (none)) else (some (x1, x0))
def laws_markCubeS.f (k : Nat) (l0 : List (S69)) (a1 : Int) : Option (Int × (List (S69))) := laws_markCubeS.l0 k l0 a1 0
set_option maxHeartbeats 8000000 in
set_option maxRecDepth 100000 in
theorem laws_markCubeS.calls (k : Nat) (P0_ : Nat → Prop) (u9000_ : Value) (l0 : List (S69)) (a1 : Int) (r1 : Int) (r2 : List (S69)) (w0 w : World) (hB : Below w0.heap.size w0 w) (ho0 : Kd.R k69 69 w w0.heap.size P0_ u9000_ l0) (h : laws_markCubeS.f k l0 a1 = some (r1, r2)) :
    Calls Try.prog 20 #[u9000_, .int .i64 a1] w fun e w' => e = .returned (.int .i64 r1) ∧ Kd.R k69 69 w' w0.heap.size (fun k_ => (P0_ k_ ∨ w.heap.size ≤ k_)) u9000_ r2 ∧ Below w0.heap.size w0 w' ∧ Kept w w' (fun k_ => P0_ k_) := by
 have HO0 := A0_ (show Kd.R k69 69 w w0.heap.size (fun k_ => (P0_ k_ ∨ w.heap.size ≤ k_)) u9000_ l0 from Kd.R_mono ho0 (fun k_ hk => (.inl hk)))
 have HK := A0_ (Kept.refl w (fun k_ => P0_ k_))
 (have HW0 := A0_ hB.size); (have HB := A0_ hB); clear hB; (have H : (laws_markCubeS.l0 k l0 a1 0) = some (r1, r2) := h); clear h; (have H' := A0_ H); clear H; (go_enter Try.func20, Try.ntmps20); go_wp2
 go_loopg [1, 5] k (fun kq v1 v5 w' => ∃ (x0_1 : List (S69)) (x1_1 : Int) (x5_1 : Int), v1 = .int .i64 x1_1 ∧ v5 = .int .i64 x5_1 ∧ Aside0 (laws_markCubeS.l0 kq x0_1 x1_1 x5_1 = some (r1, r2)) ∧ Aside0 (kq ≤ k) ∧ Aside0 (Kd.R k69 69 w' w0.heap.size (fun k_ => (P0_ k_ ∨ w.heap.size ≤ k_)) u9000_ x0_1) ∧ Aside0 (Kept w w' (fun k_ => P0_ k_)) ∧ Aside0 (Below w0.heap.size w0 w'))
 case atStart => exact ⟨(l0), (a1), (0), (by first | rfl | (simp; done) | (simp [*]; done)), (by first | rfl | (simp; done) | (simp [*]; done)), H', ⟨Nat.le_refl _⟩, ⟨by (with_reducible repeat (first | apply Ra_ | apply Rn_ | apply Rd_)); exact HO0.out⟩, ⟨by repeat (first | (with_reducible first | exact HK.out | apply Kept.alloc | apply Kept.drewN | apply Kept.drew) | exact HK.out)⟩, ⟨by repeat (first | (with_reducible first | exact HB.out | apply ba_ | apply bn_ | apply bd_) | exact HB.out)⟩⟩
 case round =>
  clear H'; (try clear c2); (try clear p2); (obtain ⟨x0_1, x1_1, x5_1, rfl, rfl, HA, HK1, HO_0, HK, HB⟩ := hrel)
  cases gk with
  | zero => exact absurd HA.out (by simp [laws_markCubeS.l0])
  | succ k1 =>
   (have H := HA.out); clear HA; (simp only [laws_markCubeS.l0] at H); (by_cases c3 : x5_1 < (x0_1.length : Int))
   ·(rw [if_pos c3] at H); (have c3b0 : decide (x5_1 < (x0_1.length : Int)) = true := decide_eq_true c3); clear c3; (by_cases c4 : 0 ≤ x5_1)
    ·(rw [if_pos c4] at H); (have c4b0 : decide (0 ≤ x5_1) = true := decide_eq_true c4); clear c4; (obtain ⟨y332, hy332⟩ : ∃ y_ : List (S69), y_ = (x0_1.set (x5_1 : Int).toNat (⟨x1_1, (rd_T69 x0_1 x5_1).f1, (rd_T69 x0_1 x5_1).f2⟩ : S69)) := ⟨_, rfl⟩)
     replace H : ((some (y332.set (x5_1 : Int).toNat (⟨(rd_T69 y332 x5_1).f0, wrap64 (x1_1 + 1), (rd_T69 y332 x5_1).f2⟩ : S69) : List (S69))).bind fun y333 => (laws_markCubeS.l0 k1 (y333.set (x5_1 : Int).toNat (⟨(rd_T69 y333 x5_1).f0, (rd_T69 y333 x5_1).f1, wrap64 ((wrap64 (x1_1 + 1)) + 1)⟩ : S69)) (wrap64 ((wrap64 ((wrap64 (x1_1 + 1)) + 1)) + 1)) (wrap64 (x5_1 + 1)))) = some (r1, r2) := by first | (rw [hy332]; with_reducible exact H) | (have H2_ := (Option.bind_some _ _).symm.trans H; rw [hy332]; with_reducible exact H2_) | (have H2_ := (Option.bind_some _ _).symm.trans H; with_reducible exact H2_) | with_reducible exact H | (rw [hy332]; exact H) | exact H
     (have Ny332 := A0_ hy332); clear hy332; (obtain ⟨y333, hy333⟩ : ∃ y_ : List (S69), y_ = (y332.set (x5_1 : Int).toNat (⟨(rd_T69 y332 x5_1).f0, wrap64 (x1_1 + 1), (rd_T69 y332 x5_1).f2⟩ : S69)) := ⟨_, rfl⟩); (replace H : (laws_markCubeS.l0 k1 (y333.set (x5_1 : Int).toNat (⟨(rd_T69 y333 x5_1).f0, (rd_T69 y333 x5_1).f1, wrap64 ((wrap64 (x1_1 + 1)) + 1)⟩ : S69)) (wrap64 ((wrap64 ((wrap64 (x1_1 + 1)) + 1)) + 1)) (wrap64 (x5_1 + 1))) = some (r1, r2) := by first | (rw [hy333]; with_reducible exact H) | (have H2_ := (Option.bind_some _ _).symm.trans H; rw [hy333]; with_reducible exact H2_) | (have H2_ := (Option.bind_some _ _).symm.trans H; with_reducible exact H2_) | with_reducible exact H | (rw [hy333]; exact H) | exact H); (have Ny333 := A0_ hy333); clear hy333; (obtain ⟨y334, hy334⟩ : ∃ y_ : List (S69), y_ = (y333.set (x5_1 : Int).toNat (⟨(rd_T69 y333 x5_1).f0, (rd_T69 y333 x5_1).f1, wrap64 ((wrap64 (x1_1 + 1)) + 1)⟩ : S69)) := ⟨_, rfl⟩); (replace H : (laws_markCubeS.l0 k1 y334 (wrap64 ((wrap64 ((wrap64 (x1_1 + 1)) + 1)) + 1)) (wrap64 (x5_1 + 1))) = some (r1, r2) := by first | (rw [hy334]; with_reducible exact H) | (have H2_ := (Option.bind_some _ _).symm.trans H; rw [hy334]; with_reducible exact H2_) | (have H2_ := (Option.bind_some _ _).symm.trans H; with_reducible exact H2_) | with_reducible exact H | (rw [hy334]; exact H) | exact H); (have Ny334 := A0_ hy334); clear hy334; (have H' := A0_ H); clear H; (obtain ⟨Ao8, co8, eo8⟩ := Kd.R_slice HO_0.out); subst eo8; (have p5 : 0 ≤ (x5_1 : Int) := of_decide_eq_true (by first | (with_reducible assumption) | assumption)); (have q5 : (x5_1 : Int) < ((x0_1.length : Int) : Int) := of_decide_eq_true (by first | (with_reducible assumption) | assumption)); (obtain ⟨go5, co5, eo5, gb5, gl5, cl5, HG5⟩ := Kd.R_form HO_0.out (by omega)); ((first | cases eo5 | (injection eo5 with ea_ en_ ec_; (first | subst ea_ | (injection ea_ with ea_; subst ea_)); subst ec_; clear en_))); (have GB5 := A0_ gb5); (have GG5 := A0_ HG5); clear gb5 gl5 HG5; (have HMgo5 := A0_ (show (P0_ go5 ∨ w.heap.size ≤ go5) from (HO_0.out.1 _ rfl))); (obtain ⟨ce5, hcl5, hM5, hcc5, hfr5⟩ := Kd.R_elem HO_0.out z69 (x5_1 : Int) p5 q5); (obtain rfl := k69_openM hM5); (have hx5_0 : wr.cell? ⟨go5, (x5_1 : Int).toNat * 3, none⟩ = some (.int .i64 ((rd_T69 x0_1 x5_1).f0)) := hcc5 0 _ rfl); (have hx5_1 : wr.cell? ⟨go5, (x5_1 : Int).toNat * 3 + 1, none⟩ = some (.int .i64 ((rd_T69 x0_1 x5_1).f1)) := hcc5 1 _ rfl); (have hx5_2 : wr.cell? ⟨go5, (x5_1 : Int).toNat * 3 + 2, none⟩ = some (.int .i64 ((rd_T69 x0_1 x5_1).f2)) := hcc5 2 _ rfl); (have hf5_0 : wr.frozen? ⟨go5, (x5_1 : Int).toNat * 3, none⟩ = false := hfr5 0); (have hf5_1 : wr.frozen? ⟨go5, (x5_1 : Int).toNat * 3 + 1, none⟩ = false := hfr5 1); (have hf5_2 : wr.frozen? ⟨go5, (x5_1 : Int).toNat * 3 + 2, none⟩ = false := hfr5 2); clear hcl5 hcc5 hfr5 hM5; (replace p5 := eq_true p5); (replace q5 := eq_true q5)
     have HX9 := A0_ (show Kd.R k69 69 wr w0.heap.size (fun k_ => (P0_ k_ ∨ w.heap.size ≤ k_)) (.slice (some ⟨go5, 0, none⟩) x0_1.length co8) x0_1 from (by (with_reducible repeat (first | apply Ra_ | apply Rn_ | apply Rd_)); exact HO_0.out))
     (obtain ⟨ce9, hcl9, hM9, hcc9, hfr9⟩ := Kd.R_elem HX9.out z69 (x5_1 : Int) (of_decide_eq_true (by first | (with_reducible assumption) | assumption)) (by have h_ : (x5_1 : Int) < ((x0_1.length : Int) : Int) := of_decide_eq_true (by first | (with_reducible assumption) | assumption); first | exact h_ | (have e_ := (Kd.R_reads' HO_0.out).1; omega) | simpa using h_)); (obtain rfl := k69_openM hM9)
     have HP9 := Kd.R_seg HX9.out (x5_1 : Int) (of_decide_eq_true (by first | (with_reducible assumption) | assumption)) (by have h_ : (x5_1 : Int) < ((x0_1.length : Int) : Int) := of_decide_eq_true (by first | (with_reducible assumption) | assumption); first | exact h_ | (have e_ := (Kd.R_reads' HO_0.out).1; omega) | simpa using h_) (seg := [.int .i64 x1_1]) (j := 0) hcl9 hcc9 (show 1 ≤ 3 from by decide) (x' := (⟨x1_1, (rd_T69 x0_1 x5_1).f1, (rd_T69 x0_1 x5_1).f2⟩ : S69)) (k69_mkM _ _ _ (⟨x1_1, (rd_T69 x0_1 x5_1).f1, (rd_T69 x0_1 x5_1).f2⟩ : S69) ) (fun _ hk => hk)
     (have hx9_0 := hcc9 0 _ rfl); ((try simp only [show (k69).sz = 3 from rfl, Nat.mul_one, Nat.add_zero] at hx9_0)); (have hf9_0 := hfr9 0); ((try simp only [show (k69).sz = 3 from rfl, Nat.mul_one, Nat.add_zero] at hf9_0)); clear hcl9 hcc9 hfr9 hM9
     go_wp2_with (first | ((with_reducible refine gate_store (t := 2) (p := 16) rfl ?_); refine store_event (t := 2) (p := 16) (v := ?vo_w10) (w1 := (wr.setCell ⟨go5, (x5_1 : Int).toNat * 3, none⟩ (.int .i64 x1_1))) ?hg ?ho ?hn ?hr ?_; (case ho => rfl); (case hg => rfl); (case hn => rfl); (case hr => first | (go_simp; done) | (go_simp; rfl)); intro w10 hw; have hg : wr.grownBy w10 (some go5) := (by rw [hw]; exact HP9.2); have hp_ : Kd.R k69 69 w10 w0.heap.size (fun k_ => (P0_ k_ ∨ w.heap.size ≤ k_)) (.slice (some ⟨go5, 0, none⟩) x0_1.length co8) y332 := (by rw [hw, Ny332.out]; exact HP9.1); clear HP9; have n0_ := A0_ (hp_); have n1_ := A0_ ((by rw [hw]; exact below_set (HB.out) GB5.out : Below w0.heap.size w0 w10)); have n2_ := A0_ (Kept.of_grown (S := (fun k_ => P0_ k_)) hg (by repeat (first | (with_reducible first | exact HK.out | apply Kept.alloc | apply Kept.drewN | apply Kept.drew) | exact HK.out)) (fun k_ e_ => (HO_0.out.1 k_ e_))); clear HO_0; clear HB; clear HK; have HO_0 := n0_; have HB := n1_; have HK := n2_; clear n0_ n1_ n2_; clear hg hw hp_; have p6 : 0 ≤ (x5_1 : Int) := of_decide_eq_true (by first | (with_reducible assumption) | assumption); have q6 : (x5_1 : Int) < ((x0_1.length : Int) : Int) := of_decide_eq_true (by first | (with_reducible assumption) | assumption); obtain ⟨ce6, hcl6, hM6, hcc6, hfr6⟩ := Kd.R_elem HO_0.out z69 (x5_1 : Int) p6 q6; obtain rfl := k69_openM hM6; have hx6_0 : w10.cell? ⟨go5, (x5_1 : Int).toNat * 3, none⟩ = some (.int .i64 ((rd_T69 y332 x5_1).f0)) := hcc6 0 _ rfl; have hx6_1 : w10.cell? ⟨go5, (x5_1 : Int).toNat * 3 + 1, none⟩ = some (.int .i64 ((rd_T69 y332 x5_1).f1)) := hcc6 1 _ rfl; have hx6_2 : w10.cell? ⟨go5, (x5_1 : Int).toNat * 3 + 2, none⟩ = some (.int .i64 ((rd_T69 y332 x5_1).f2)) := hcc6 2 _ rfl; have hf6_0 : w10.frozen? ⟨go5, (x5_1 : Int).toNat * 3, none⟩ = false := hfr6 0; have hf6_1 : w10.frozen? ⟨go5, (x5_1 : Int).toNat * 3 + 1, none⟩ = false := hfr6 1; have hf6_2 : w10.frozen? ⟨go5, (x5_1 : Int).toNat * 3 + 2, none⟩ = false := hfr6 2; clear hcl6 hcc6 hfr6 hM6; replace p6 := eq_true p6; replace q6 := eq_true q6; have HX11 := A0_ (show Kd.R k69 69 w10 w0.heap.size (fun k_ => (P0_ k_ ∨ w.heap.size ≤ k_)) (.slice (some ⟨go5, 0, none⟩) x0_1.length co8) y332 from (by (with_reducible repeat (first | apply Ra_ | apply Rn_ | apply Rd_)); exact HO_0.out)); obtain ⟨ce11, hcl11, hM11, hcc11, hfr11⟩ := Kd.R_elem HX11.out z69 (x5_1 : Int) (of_decide_eq_true (by first | (with_reducible assumption) | assumption)) (by have h_ : (x5_1 : Int) < ((x0_1.length : Int) : Int) := of_decide_eq_true (by first | (with_reducible assumption) | assumption); first | exact h_ | (have e_ := (Kd.R_reads' HO_0.out).1; omega) | simpa using h_); obtain rfl := k69_openM hM11; have HP11 := Kd.R_seg HX11.out (x5_1 : Int) (of_decide_eq_true (by first | (with_reducible assumption) | assumption)) (by have h_ : (x5_1 : Int) < ((x0_1.length : Int) : Int) := of_decide_eq_true (by first | (with_reducible assumption) | assumption); first | exact h_ | (have e_ := (Kd.R_reads' HO_0.out).1; omega) | simpa using h_) (seg := [.int .i64 (wrap64 (x1_1 + 1))]) (j := 1) hcl11 hcc11 (show 2 ≤ 3 from by decide) (x' := (⟨(rd_T69 y332 x5_1).f0, wrap64 (x1_1 + 1), (rd_T69 y332 x5_1).f2⟩ : S69)) (k69_mkM _ _ _ (⟨(rd_T69 y332 x5_1).f0, wrap64 (x1_1 + 1), (rd_T69 y332 x5_1).f2⟩ : S69) ) (fun _ hk => hk); have hx11_1 := hcc11 1 _ rfl; (try simp only [show (k69).sz = 3 from rfl, Nat.mul_one, Nat.add_zero] at hx11_1); have hf11_1 := hfr11 1; (try simp only [show (k69).sz = 3 from rfl, Nat.mul_one, Nat.add_zero] at hf11_1); clear hcl11 hcc11 hfr11 hM11) | ((with_reducible refine gate_store (t := 2) (p := 23) rfl ?_); refine store_event (t := 2) (p := 23) (v := ?vo_w12) (w1 := (w10.setCell ⟨go5, (x5_1 : Int).toNat * 3 + 1, none⟩ (.int .i64 (wrap64 (x1_1 + 1))))) ?hg ?ho ?hn ?hr ?_; (case ho => rfl); (case hg => rfl); (case hn => rfl); (case hr => first | (go_simp; done) | (go_simp; rfl)); intro w12 hw; have hg : w10.grownBy w12 (some go5) := (by rw [hw]; exact HP11.2); have hp_ : Kd.R k69 69 w12 w0.heap.size (fun k_ => (P0_ k_ ∨ w.heap.size ≤ k_)) (.slice (some ⟨go5, 0, none⟩) x0_1.length co8) y333 := (by rw [hw, Ny333.out]; exact HP11.1); clear HP11; have n0_ := A0_ (hp_); have n1_ := A0_ ((by rw [hw]; exact below_set (HB.out) GB5.out : Below w0.heap.size w0 w12)); have n2_ := A0_ (Kept.of_grown (S := (fun k_ => P0_ k_)) hg (by repeat (first | (with_reducible first | exact HK.out | apply Kept.alloc | apply Kept.drewN | apply Kept.drew) | exact HK.out)) (fun k_ e_ => (HO_0.out.1 k_ e_))); clear HO_0; clear HB; clear HK; have HO_0 := n0_; have HB := n1_; have HK := n2_; clear n0_ n1_ n2_; clear hg hw hp_; have p7 : 0 ≤ (x5_1 : Int) := of_decide_eq_true (by first | (with_reducible assumption) | assumption); have q7 : (x5_1 : Int) < ((x0_1.length : Int) : Int) := of_decide_eq_true (by first | (with_reducible assumption) | assumption); obtain ⟨ce7, hcl7, hM7, hcc7, hfr7⟩ := Kd.R_elem HO_0.out z69 (x5_1 : Int) p7 q7; obtain rfl := k69_openM hM7; have hx7_0 : w12.cell? ⟨go5, (x5_1 : Int).toNat * 3, none⟩ = some (.int .i64 ((rd_T69 y333 x5_1).f0)) := hcc7 0 _ rfl; have hx7_1 : w12.cell? ⟨go5, (x5_1 : Int).toNat * 3 + 1, none⟩ = some (.int .i64 ((rd_T69 y333 x5_1).f1)) := hcc7 1 _ rfl; have hx7_2 : w12.cell? ⟨go5, (x5_1 : Int).toNat * 3 + 2, none⟩ = some (.int .i64 ((rd_T69 y333 x5_1).f2)) := hcc7 2 _ rfl; have hf7_0 : w12.frozen? ⟨go5, (x5_1 : Int).toNat * 3, none⟩ = false := hfr7 0; have hf7_1 : w12.frozen? ⟨go5, (x5_1 : Int).toNat * 3 + 1, none⟩ = false := hfr7 1; have hf7_2 : w12.frozen? ⟨go5, (x5_1 : Int).toNat * 3 + 2, none⟩ = false := hfr7 2; clear hcl7 hcc7 hfr7 hM7; replace p7 := eq_true p7; replace q7 := eq_true q7; have HX13 := A0_ (show Kd.R k69 69 w12 w0.heap.size (fun k_ => (P0_ k_ ∨ w.heap.size ≤ k_)) (.slice (some ⟨go5, 0, none⟩) x0_1.length co8) y333 from (by (with_reducible repeat (first | apply Ra_ | apply Rn_ | apply Rd_)); exact HO_0.out)); obtain ⟨ce13, hcl13, hM13, hcc13, hfr13⟩ := Kd.R_elem HX13.out z69 (x5_1 : Int) (of_decide_eq_true (by first | (with_reducible assumption) | assumption)) (by have h_ : (x5_1 : Int) < ((x0_1.length : Int) : Int) := of_decide_eq_true (by first | (with_reducible assumption) | assumption); first | exact h_ | (have e_ := (Kd.R_reads' HO_0.out).1; omega) | simpa using h_); obtain rfl := k69_openM hM13; have HP13 := Kd.R_seg HX13.out (x5_1 : Int) (of_decide_eq_true (by first | (with_reducible assumption) | assumption)) (by have h_ : (x5_1 : Int) < ((x0_1.length : Int) : Int) := of_decide_eq_true (by first | (with_reducible assumption) | assumption); first | exact h_ | (have e_ := (Kd.R_reads' HO_0.out).1; omega) | simpa using h_) (seg := [.int .i64 (wrap64 ((wrap64 (x1_1 + 1)) + 1))]) (j := 2) hcl13 hcc13 (show 3 ≤ 3 from by decide) (x' := (⟨(rd_T69 y333 x5_1).f0, (rd_T69 y333 x5_1).f1, wrap64 ((wrap64 (x1_1 + 1)) + 1)⟩ : S69)) (k69_mkM _ _ _ (⟨(rd_T69 y333 x5_1).f0, (rd_T69 y333 x5_1).f1, wrap64 ((wrap64 (x1_1 + 1)) + 1)⟩ : S69) ) (fun _ hk => hk); have hx13_2 := hcc13 2 _ rfl; (try simp only [show (k69).sz = 3 from rfl, Nat.mul_one, Nat.add_zero] at hx13_2); have hf13_2 := hfr13 2; (try simp only [show (k69).sz = 3 from rfl, Nat.mul_one, Nat.add_zero] at hf13_2); clear hcl13 hcc13 hfr13 hM13) | ((with_reducible refine gate_store (t := 2) (p := 30) rfl ?_); refine store_event (t := 2) (p := 30) (v := ?vo_w14) (w1 := (w12.setCell ⟨go5, (x5_1 : Int).toNat * 3 + 2, none⟩ (.int .i64 (wrap64 ((wrap64 (x1_1 + 1)) + 1))))) ?hg ?ho ?hn ?hr ?_; (case ho => rfl); (case hg => rfl); (case hn => rfl); (case hr => first | (go_simp; done) | (go_simp; rfl)); intro w14 hw; have hg : w12.grownBy w14 (some go5) := (by rw [hw]; exact HP13.2); have hp_ : Kd.R k69 69 w14 w0.heap.size (fun k_ => (P0_ k_ ∨ w.heap.size ≤ k_)) (.slice (some ⟨go5, 0, none⟩) x0_1.length co8) y334 := (by rw [hw, Ny334.out]; exact HP13.1); clear HP13; have n0_ := A0_ (hp_); have n1_ := A0_ ((by rw [hw]; exact below_set (HB.out) GB5.out : Below w0.heap.size w0 w14)); have n2_ := A0_ (Kept.of_grown (S := (fun k_ => P0_ k_)) hg (by repeat (first | (with_reducible first | exact HK.out | apply Kept.alloc | apply Kept.drewN | apply Kept.drew) | exact HK.out)) (fun k_ e_ => (HO_0.out.1 k_ e_))); clear HO_0; clear HB; clear HK; have HO_0 := n0_; have HB := n1_; have HK := n2_; clear n0_ n1_ n2_; clear hg hw hp_))
     (go_roundg k1)
     case measure => have := HK1.out; omega
     case rel => exact ⟨(y334), (wrap64 ((wrap64 ((wrap64 (x1_1 + 1)) + 1)) + 1)), (wrap64 (x5_1 + 1)), (by first | rfl | (simp; done) | (simp [*]; done)), (by first | rfl | (simp; done) | (simp [*]; done)), H', ⟨by have := HK1.out; omega⟩, ⟨by (with_reducible repeat (first | apply Ra_ | apply Rn_ | apply Rd_)); exact HO_0.out⟩, ⟨by repeat (first | (with_reducible first | exact HK.out | apply Kept.alloc | apply Kept.drewN | apply Kept.drew) | exact HK.out)⟩, ⟨by repeat (first | (with_reducible first | exact HB.out | apply ba_ | apply bn_ | apply bd_) | exact HB.out)⟩⟩
    ·(rw [if_neg c4] at H); (exact absurd H (by simp))
   ·(rw [if_neg c3] at H); (have c3b0 : decide (x5_1 < (x0_1.length : Int)) = false := decide_eq_false c3); clear c3; (simp only [Option.some.injEq, Prod.mk.injEq] at H); (obtain ⟨rfl, rfl⟩ := H); (obtain ⟨Ao15, co15, eo15⟩ := Kd.R_slice HO_0.out); subst eo15; go_wp2; go_ret; (exact ⟨by first | rfl | (simp [errW_none, errW_some] <;> rfl) | (simp [*, errW_none, errW_some] <;> rfl), by (with_reducible repeat (first | apply Ra_ | apply Rn_ | apply Rd_)); exact HO_0.out, by repeat (first | (with_reducible first | exact HB.out | apply ba_ | apply bn_ | apply bd_) | exact HB.out), by repeat (first | (with_reducible first | exact HK.out | apply Kept.alloc | apply Kept.drewN | apply Kept.drew) | exact HK.out)⟩)
end Go.Proofs.Ytlbckkagjekhnaa.A

/- Marks of the burrs' laws: numbers written into the cubes of an assembly, into rows of numbers; what is held. -/
namespace Go.Proofs.Ytlbckkagjekhnaa.A
set_option linter.unusedSimpArgs false
set_option linter.unusedVariables false
open Go.RowKit Go.Proofs.YtlbckkagjekhnaaW.PrintWords Go.Proofs.YtlbckkagjekhnaaW.PrintLast Go.Proofs.YtlbckkagjekhnaaW.PrintMore
abbrev kQ : Kd (List Cb) := Kd.slice 69 k69
def ints (c : Int) (n : Nat) : List Int := (List.range n).map fun (i : Nat) => c + (i : Int)
theorem ints_len (c : Int) (n : Nat) : (ints c n).length = n := by simp [ints]
theorem markInt64S_ev (l : List Int) (a : Int) (h : l.length ≤ 1048576) (h0 : 0 ≤ a) (h1 : a ≤ 1000000000000) : Ev (fun k => laws_markInt64S.f k l a) (a + (l.length : Int), ints a l.length) := by
  unfold laws_markInt64S.f
  refine ev_at l.length (fun (s : List Int × Int) j => s.1.length = l.length ∧ s.2 = a + (j : Int) ∧ s.1.take j = ints a j) (a + (l.length : Int), ints a l.length) (fun s i k => laws_markInt64S.l0 k s.1 s.2 i) (fun s hi => ?_) (fun s j hj hi => ?_) (l, a) ⟨rfl, by simp, by simp [ints]⟩
  · refine Ev.step (f := fun _ => some (s.2, s.1)) (fun k => by simp only [laws_markInt64S.l0]; rw [if_neg (by omega)]) ?_
    have h3 := hi.2.2
    rw [List.take_of_length_le (by omega)] at h3
    rw [hi.2.1, h3]
    exact Ev.now _
  · refine ⟨(s.1.set j s.2, s.2 + 1), ⟨by simp only [List.length_set]; exact hi.1, by simp only; omega, ?_⟩, fun h2 => Ev.step (fun k => ?_) h2⟩
    · have hl : j < (s.1.set j s.2).length := by rw [List.length_set]; omega
      simp only
      rw [List.take_succ_eq_append_getElem hl, List.getElem_set_self, List.take_set_of_le (Nat.le_refl j), hi.2.2, hi.2.1]
      simp [ints, List.range_succ]
    · simp only [laws_markInt64S.l0, Int.toNat_natCast]
      rw [if_pos (by omega), if_pos (by omega), wrap_succ j (by omega), show wrap64 (s.2 + 1) = s.2 + 1 from by have := hi.2.1; unfold wrap64; omega]
theorem heldInts_ev' (a : Int) (n : Nat) (h0 : 0 ≤ a) (h : a + n ≤ 1000000000000) : Ev (fun k => laws_heldInt64S.f k (ints a n) a) (a + (n : Int)) := by
  unfold laws_heldInt64S.f
  refine ev_at n (fun (s : Int) j => s = a + (j : Int)) (a + (n : Int)) (fun s i k => laws_heldInt64S.l0 k (ints a n) s i) (fun s hi => ?_) (fun s j hj hi => ?_) a (by simp)
  · exact Ev.step (f := fun _ => some s) (fun k => by simp only [laws_heldInt64S.l0]; rw [if_neg (by rw [ints_len]; omega)]) (by rw [hi]; exact Ev.now _)
  · refine ⟨s + 1, by omega, fun h2 => Ev.step (fun k => ?_) h2⟩
    have hg : (ints a n)[j]'(by rw [ints_len]; exact hj) = a + j := by simp [ints]
    simp only [laws_heldInt64S.l0]
    rw [if_pos (by rw [ints_len]; omega), if_pos (by omega), if_pos (by rw [rd_nat _ j (by rw [ints_len]; omega), hg]; omega), wrap_succ j (by omega), show wrap64 (s + 1) = s + 1 from by unfold wrap64; omega]
theorem eqInt64S_ev (l : List Int) (h : l.length ≤ 1048576) : Ev (fun k => laws_eqInt64S.f k l l) true := by
  unfold laws_eqInt64S.f
  simp only [if_true]
  refine ev_at l.length (fun (_ : Unit) _ => True) true (fun _ i k => laws_eqInt64S.l0 k l l i) (fun s hi => ?_) (fun s j hj hi => ?_) () trivial
  · exact Ev.step (f := fun _ => some true) (fun k => by simp only [laws_eqInt64S.l0]; rw [if_neg (by omega)]) (Ev.now _)
  · refine ⟨(), trivial, fun h2 => Ev.step (fun k => ?_) h2⟩
    simp only [laws_eqInt64S.l0, if_true]
    rw [if_pos (by omega), if_pos (by omega), if_pos (by omega), wrap_succ j (by omega)]
def marksC (a : Int) (n : Nat) : List Cb := (List.range n).map fun (i : Nat) => ⟨a + 3 * (i : Int), a + 3 * (i : Int) + 1, a + 3 * (i : Int) + 2⟩
theorem markCubeS_ev (l : List Cb) (a : Int) (h : l.length ≤ 1048576) (h0 : 0 ≤ a) (h1 : a ≤ 1000000000000) : Ev (fun k => laws_markCubeS.f k l a) (a + 3 * (l.length : Int), marksC a l.length) := by
  unfold laws_markCubeS.f
  refine ev_at l.length (fun (s : List Cb × Int) j => s.1.length = l.length ∧ s.2 = a + 3 * (j : Int) ∧ s.1.take j = marksC a j) (a + 3 * (l.length : Int), marksC a l.length) (fun s i k => laws_markCubeS.l0 k s.1 s.2 i) (fun s hi => ?_) (fun s j hj hi => ?_) (l, a) ⟨rfl, by simp, by simp [marksC]⟩
  · refine Ev.step (f := fun _ => some (s.2, s.1)) (fun k => by simp only [laws_markCubeS.l0]; rw [if_neg (by omega)]) ?_
    have h3 := hi.2.2
    rw [List.take_of_length_le (by omega)] at h3
    rw [hi.2.1, h3]
    exact Ev.now _
  · have w1 : wrap64 (s.2 + 1) = s.2 + 1 := by have := hi.2.1; unfold wrap64; omega
    have w2 : wrap64 (s.2 + 1 + 1) = s.2 + 2 := by have := hi.2.1; unfold wrap64; omega
    have w3 : wrap64 (s.2 + 2 + 1) = s.2 + 3 := by have := hi.2.1; unfold wrap64; omega
    refine ⟨(s.1.set j ⟨s.2, s.2 + 1, s.2 + 2⟩, s.2 + 3), ⟨by simp only [List.length_set]; exact hi.1, by simp only; omega, ?_⟩, fun h2 => Ev.step (fun k => ?_) h2⟩
    · have hl : j < (s.1.set j (⟨s.2, s.2 + 1, s.2 + 2⟩ : Cb)).length := by rw [List.length_set]; omega
      simp only
      rw [List.take_succ_eq_append_getElem hl, List.getElem_set_self, List.take_set_of_le (Nat.le_refl j), hi.2.2, hi.2.1]
      simp [marksC, List.range_succ]
    · simp only [laws_markCubeS.l0, Int.toNat_natCast, Option.bind_some, w1, w2, w3, rd_T69]
      rw [if_pos (by omega), if_pos (by omega), wrap_succ j (by omega)]
      have hg : ∀ (l : List Cb) (x : Cb) (hl : j < l.length), (l.set j x).getD j z69 = x := fun l x hl => by simp [List.getD_eq_getElem?_getD, hl]
      have hjl : j < s.1.length := by omega
      rw [hg _ _ hjl]
      dsimp only
      rw [hg _ _ (by rw [List.length_set]; exact hjl)]
      dsimp only
      rw [List.set_set, List.set_set]
def t3 (rows : List (List Cb)) : Int := 3 * tot2 rows
theorem t3_next (rows : List (List Cb)) (i : Nat) (h : i < rows.length) : t3 (rows.take (i + 1)) = t3 (rows.take i) + 3 * (rows[i].length : Int) := by
  unfold t3 tot2
  rw [List.take_succ_eq_append_getElem h, List.map_append, List.sum_append]
  simp
  omega
theorem t3_le (rows : List (List Cb)) (i : Nat) : t3 (rows.take i) ≤ t3 rows ∧ 0 ≤ t3 (rows.take i) := by
  unfold t3 tot2
  have := congrArg (fun l => (List.map List.length l).sum) (List.take_append_drop i rows)
  simp only [List.map_append, List.sum_append] at this
  omega
theorem t3_cons (r : List Cb) (rs : List (List Cb)) : t3 (r :: rs) = 3 * (r.length : Int) + t3 rs := by unfold t3; rw [tot2_cons]; omega
/-- Numbers from a on, in the cubes of rows as long as the given ones. -/
def marksQ : Int → List (List Cb) → List (List Cb)
  | _, [] => []
  | a, r :: rs => marksC a r.length :: marksQ (a + 3 * (r.length : Int)) rs
theorem marksQ_len : ∀ (rows : List (List Cb)) (a : Int), (marksQ a rows).length = rows.length
  | [], _ => rfl
  | r :: rs, a => by simp [marksQ, marksQ_len rs]
theorem marksQ_at : ∀ (rows : List (List Cb)) (a : Int) (i : Nat) (h : i < rows.length), (marksQ a rows)[i]? = some (marksC (a + t3 (rows.take i)) rows[i].length)
  | r :: rs, a, 0, h => by simp [marksQ, t3, tot2]
  | r :: rs, a, i + 1, h => by
    simp only [marksQ, List.getElem?_cons_succ, List.getElem_cons_succ, List.take_succ_cons]
    rw [marksQ_at rs _ i (by simpa using h), t3_cons]
    congr 2
    omega
set_option maxHeartbeats 1000000 in
set_option maxRecDepth 100000 in
theorem laws_markCubeSS.calls2 (rows : List (List Cb)) (fp : Nat → Prop) (u : Value) (a : Int) (w0 w : World) (hB : Below w0.heap.size w0 w) (hS : Kd.S kQ 34 w w0.heap.size fp u rows) (h0 : 0 ≤ a) (h1 : a + t3 rows ≤ 1000000000000) (hl : rows.length ≤ 1048576) (hr : ∀ r ∈ rows, r.length ≤ 1048576) :
    Calls Try.prog 21 #[u, .int .i64 a] w fun e w' => e = .returned (.int .i64 (a + t3 rows)) ∧ Kd.S kQ 34 w' w0.heap.size (fun k => fp k ∨ w.heap.size ≤ k) u (marksQ a rows) ∧ Below w0.heap.size w0 w' ∧ Kept w w' fp := by
  obtain ⟨A, c, rfl⟩ := Kd.S_slice hS
  have HS := A0_ (Kd.S_mono (ok' := fun k => fp k ∨ w.heap.size ≤ k) hS (fun k hk => .inl hk))
  have HB := A0_ hB
  have HK := A0_ (Kept.refl w fp)
  have HA := A0_ (And.intro h0 h1)
  have HL := A0_ hl
  have HR := A0_ hr
  clear hS hB h0 h1 hl hr
  go_enter Try.func21, Try.ntmps21
  go_wp2
  go_loopg [1, 5] (rows.length + 1) (fun kq v1 v5 w' => ∃ (i : Nat) (rs : List (List Cb)), v5 = .int .i64 (i : Int) ∧ v1 = .int .i64 (a + t3 (rows.take i)) ∧ Aside0 (i ≤ rows.length ∧ kq + i = rows.length + 1 ∧ rs.length = rows.length ∧ (∀ j, i ≤ j → rs[j]? = rows[j]?) ∧ ∀ j, j < i → rs[j]? = (marksQ a rows)[j]?) ∧ Aside0 (Kd.S kQ 34 w' w0.heap.size (fun k => fp k ∨ w.heap.size ≤ k) (.slice A rows.length c) rs) ∧ Aside0 (Below w0.heap.size w0 w') ∧ Aside0 (Kept w w' fp))
  case atStart => exact ⟨0, rows, rfl, by simp [t3, tot2], ⟨by omega, by omega, rfl, fun _ _ => rfl, fun j hj => by omega⟩, HS, HB, HK⟩
  case round =>
    clear HS HB HK
    obtain ⟨i, rs, rfl, rfl, HX, HS, HB, HK⟩ := hrel
    obtain ⟨k1, rfl⟩ : ∃ k1, gk = k1 + 1 := ⟨gk - 1, by have := HX.out; omega⟩
    by_cases ci : i < rows.length
    · have ci0 : decide (i < rows.length) = true := decide_eq_true ci
      have ci1 := eq_true ci
      have hrl := HX.out.2.2.1
      obtain ⟨g, cap, e, hgb, hgl, _⟩ := Kd.S_form HS.out (by omega)
      rw [hrl] at e
      injection e with e1 e2 e3
      subst e1 e3
      obtain ⟨oki, cc, hcl, hM, hcc, hfr, hoki, hH⟩ := Kd.S_elem HS.out [] (i : Int) (by omega) (by omega)
      have hget : rs.getD (i : Int).toNat [] = rows[i] := by
        rw [Int.toNat_natCast, List.getD_eq_getElem?_getD, HX.out.2.2.2.1 i (Nat.le_refl i), List.getElem?_eq_getElem ci]; rfl
      rw [hget] at hM
      obtain ⟨v, rfl, hRv⟩ := hM
      obtain ⟨A2, c2, rfl⟩ := Kd.R_slice hRv
      have hcell := hcc 0 _ rfl
      have ez : (i : Int).toNat * kQ.sz + 0 = i := by show (i : Int).toNat * 1 + 0 = i; omega
      rw [ez] at hcell
      obtain ⟨r, hrr⟩ : ∃ r, r = rows[i] := ⟨_, rfl⟩
      have htn := t3_next rows i ci
      rw [← hrr] at hRv hcell htn hH
      have HTN := A0_ htn
      have HMJ := A0_ (show (marksQ a rows)[i]? = some (marksC (a + t3 (rows.take i)) r.length) by rw [hrr]; exact marksQ_at rows a i ci)
      have hrlen : r.length ≤ 1048576 := hrr ▸ HR.out _ (List.getElem_mem ci)
      have htl := t3_le rows i
      have htl2 := t3_le rows (i + 1)
      obtain ⟨km, hkm⟩ := (markCubeS_ev r (a + t3 (rows.take i)) hrlen (by have := HA.out; omega) (by have := HA.out; omega)).rounds
      have HKM := A0_ hkm
      have HRV := A0_ hRv
      have HWI := A0_ (wrap_succ i (by have := HL.out; omega))
      have HH := A0_ hH
      have HOK := A0_ hoki
      have HC := A0_ ci
      have p0 : ((i : Int) < (rows.length : Int)) = True := eq_true (by omega)
      clear hkm hRv hH hoki hcl hcc hfr hget hrr htn htl htl2 hrlen ci
      go_wp2_with (first
        | (go_at_call 20; refine (laws_markCubeS.calls km oki _ r (a + t3 (rows.take i)) _ _ w0 _ HB.out HRV.out HKM.out).mono ?_; rintro e w1 ⟨rfl, ho, hb, hk⟩; have HO := A0_ ho; have HB1 := A0_ hb; have HKK := A0_ hk; clear ho hb hk))
      go_roundg k1
      case measure => omega
      case rel =>
        rw [HWI.out]
        refine ⟨i + 1, rs.set i (marksC (a + t3 (rows.take i)) r.length), rfl, by rw [HTN.out]; congr 1; omega, ⟨by have := HC.out; omega, by have := HX.out; omega, by rw [List.length_set]; exact HX.out.2.2.1, fun j hj => by rw [List.getElem?_set_ne (by omega)]; exact HX.out.2.2.2.1 j (by omega), fun j hj => by
          by_cases e : j = i
          · subst e; rw [List.getElem?_set_self (by rw [HX.out.2.2.1]; exact HC.out), HMJ.out]
          · rw [List.getElem?_set_ne (Ne.symm e)]; exact HX.out.2.2.2.2 j (by omega)⟩, ⟨?_⟩, HB1, ⟨?_⟩⟩
        · have hw := Kd.H_widen HH.out
          have hk2 := Kd.H_kept hw HKK.out (fun k _ hn hs => hn (.inl hs))
          have := Kd.H_back hk2 (x' := marksC (a + t3 (rows.take i)) r.length) ⟨_, rfl, Kd.R_mono (ok' := fun k => oki k ∨ (fp k ∨ w.heap.size ≤ k) ∧ wr.heap.size ≤ k) HO.out (fun k hk => hk.elim .inl (fun h => .inr ⟨.inr (Nat.le_trans HK.out.1 h), h⟩))⟩ (fun _ h => h)
          rw [Int.toNat_natCast] at this
          exact this
        · exact Kept.then_ HK.out HKK.out (fun k hk => (HOK.out k hk).1)
    · have ci0 : decide (i < rows.length) = false := decide_eq_false ci
      have hi : i = rows.length := by have := HX.out; omega
      have HI := A0_ hi
      clear ci hi
      go_wp2
      go_ret
      have e : rs = marksQ a rows := List.ext_getElem? (fun j => by
        by_cases c : j < rows.length
        · exact HX.out.2.2.2.2 j (by rw [HI.out]; exact c)
        · rw [List.getElem?_eq_none (by rw [HX.out.2.2.1]; omega), List.getElem?_eq_none (by rw [marksQ_len]; omega)])
      exact ⟨by rw [HI.out, List.take_length]; rfl, e ▸ HS.out, HB.out, HK.out⟩
set_option maxHeartbeats 1000000 in
set_option maxRecDepth 100000 in
theorem laws_markAssembly.calls2 (rows : List (List Cb)) (fp : Nat → Prop) (A : Option Addr) (n c : Nat) (a : Int) (w0 w : World) (hB : Below w0.heap.size w0 w) (hS : Kd.S kQ 34 w w0.heap.size fp (.slice A n c) rows) (h0 : 0 ≤ a) (h1 : a + t3 rows ≤ 1000000000000) (hl : rows.length ≤ 1048576) (hr : ∀ r ∈ rows, r.length ≤ 1048576) :
    Calls Try.prog 19 #[.agg #[.slice A n c], .int .i64 a] w fun e w' => e = .returned (.int .i64 (a + t3 rows)) ∧ ∃ rows', Kd.S kQ 34 w' w0.heap.size (fun k => fp k ∨ w.heap.size ≤ k) (.slice A n c) rows' ∧ Below w0.heap.size w0 w' ∧ Kept w w' fp := by
  have HS := A0_ (Kd.S_alloc hS (.cells #[.slice A n c] 32))
  have HB := A0_ (below_alloc hB (.cells #[.slice A n c] 32))
  have HKA := A0_ (Kept.alloc (Kept.refl w fp) (.cells #[.slice A n c] 32))
  have HA := A0_ (And.intro h0 h1)
  have HL := A0_ hl
  have HR := A0_ hr
  clear hS hB h0 h1 hl hr
  go_enter Try.func19, Try.ntmps19
  go_wp2_with (first
    | (go_at_call 21; refine (laws_markCubeSS.calls2 rows fp _ a w0 _ HB.out HS.out HA.out.1 HA.out.2 HL.out HR.out).mono ?_; rintro e w1 ⟨rfl, hs, hb, hk⟩; have HS1 := A0_ hs; have HB1 := A0_ hb; have HK1 := A0_ hk; clear hs hb hk))
  go_ret
  exact ⟨rfl, _, Kd.S_mono HS1.out (fun k hk => hk.imp_right (fun h => Nat.le_trans HKA.out.1 h)), HB1.out, Kept.then_ HKA.out HK1.out (fun k hk => .inl hk)⟩
end Go.Proofs.Ytlbckkagjekhnaa.A

/- The law FnExactFindExit, walked as one straight line. -/
namespace Go.Proofs.Ytlbckkagjekhnaa.A
open Go.RowKit Go.Proofs.YtlbckkagjekhnaaW.PrintWords Go.Proofs.YtlbckkagjekhnaaW.PrintLast Go.Proofs.YtlbckkagjekhnaaW.PrintMore
set_option linter.unusedVariables false
set_option linter.unusedSimpArgs false
def lawFx.T10 : Bool × List (List Nat × List Nat) := (true, [([], []), ([], []), ([1], [1]), ([0, 2, 2], [0, 2]), ([3], [3])])
def lawFx.B10 : List Nat := [0, 0, 2, 7, 15]
theorem lawFx.tab10 : rtab .any (opsOf Try.f7 10) = lawFx.T10 := by kernel_rfl
theorem lawFx.bits10 : waitsOk lawFx.T10.2 lawFx.B10 = true := by kernel_rfl
set_option maxHeartbeats 8000000 in
set_option maxRecDepth 100000 in
theorem lawFx_good (A0 : Option Addr) (c0 : Nat) (l : List (List Lb)) (w : World) (hr : Kd.C (Kd.slice 71 k71) w A0 l.length l) (hc : l.length ≤ c0) (KK : Nat) (s : Int) (hsz : laws_szAssembly.f KK l 1048576 = some s) (hpos : ¬ s < 0) (P : List (List Cb)) (hz : SzOk P) (hto : laws_toAssembly.f KK l = some P) (heq : laws_eqAssembly.f KK P P = some true) (x : List Int) (x1 x2 : Int) (hx : exitR P = (x, x1, x2)) (hei : laws_eqInt64S.f KK x x = some true) (hmk : laws_markInt64S.f KK x 1 = some (1 + (x.length : Int), ints 1 x.length)) (hhd : laws_heldInt64S.f KK (ints 1 x.length) 1 = some (1 + (x.length : Int))) :
    Calls Try.prog 7 #[.agg #[.slice A0 l.length c0]] w fun e w' => e = .returned (.bool true) ∧ Below w.heap.size w w' := by
  have hu24 := Try.underlying24
  have hu32 := Try.underlying32
  have HR := A0_ hr
  have HC := A0_ hc
  have HSZ := A0_ hsz
  have HTO1 := A0_ hto
  have HTO2 := A0_ hto
  have HTO3 := A0_ hto
  have HTO4 := A0_ hto
  have HEQ := A0_ heq
  have HEI1 := A0_ hei
  have HEI2 := A0_ hei
  have HEI3 := A0_ hei
  have HMK := A0_ hmk
  have HHD1 := A0_ hhd
  have HHD2 := A0_ hhd
  have HZ := A0_ hz
  have hp0 : decide (s < 0) = false := decide_eq_false hpos
  have ht := t3_le P P.length
  have hp1 : decide (1 + t3 P < 0) = false := decide_eq_false (by rw [List.take_length] at ht; omega)
  have hp2 : decide (1 + (x.length : Int) < 0) = false := decide_eq_false (by omega)
  have HT3 := A0_ (show 1 + t3 P ≤ 1000000000000 by have := hz.tot; unfold t3; omega)
  have HS := A0_ (Sp.start w)
  have HSP := A0_ (fun A c w1 h1 h2 => sFind_calls A c P w1 h1 h2 hz)
  have HIM1 := A0_ (fun A c w1 h1 => findExit_calls A c P w1 h1 hz)
  rw [hx] at HSP HIM1
  have HIM2 := HIM1
  clear hr hc hsz hto heq hz hx hei hmk hhd ht hpos
  go_enter Try.func7, Try.ntmps7
  go_wp2_with (first
    | ((with_reducible refine gate_dst (N := 1) rfl ?_); go_loud (refine box_event ?hg (N := 1) ?hd (cs := #[.slice A0 l.length c0]) (t := 24) ?hr ?_; (case hd => rfl); (case hg => rfl); (case hr => first | (go_simp; done) | (go_simp; rfl)); intro gb hgb_ wb_ hcb_ hbb_; have HS_ := A0_ (Sp.boxed HS.out hgb_ hcb_ hbb_); clear HS; have HS := HS_; clear HS_; clear hgb_ hcb_ hbb_; have hb0 := (blk_cell (Sp.blk HS.out (i := 0) rfl).1 0).trans rfl))
    | (go_at_call 10; go_loud (refine (laws_szAssembly.calls KK A0 c0 l 1048576 s _ (Kd.C_below HR.out HS.out.below) HC.out HSZ.out).mono ?_; rintro e wc_ ⟨rfl, hb_⟩; have HS_ := A0_ (Sp.far HS.out hb_); clear HS; have HS := HS_; clear HS_; clear hb_ hb0 HSZ; have hb0 := (blk_cell (Sp.blk HS.out (i := 0) rfl).1 0).trans rfl))
    | (go_at_call 13; go_loud (refine (laws_toAssembly.calls KK A0 c0 l P _ (Kd.C_below HR.out HS.out.below) HC.out HTO1.out).mono ?_; rintro e wc_ ⟨v_, rfl, hs_, hb_⟩; have HS_ := A0_ (Sp.madeS HS.out hb_ hs_); clear HS; have HS := HS_; clear HS_; clear hb_ hs_ hb0 HTO1; obtain ⟨A1, c1, ev_⟩ := Sp.sliceS HS.out (i := 0) rfl; subst ev_))
    | (go_at_call 32; go_loud (refine (HSP.out A1 c1 _ (Sp.readsS HS.out (i := 0) rfl).2.2 (Sp.readsS HS.out (i := 0) rfl).2.1).mono ?_; rintro e wc_ ⟨v_, rfl, hr_, hb_⟩; have HS_ := A0_ (Sp.made' HS.out hb_ hr_); clear HS; have HS := HS_; clear HS_; obtain ⟨A2, c2, rfl⟩ := Kd.R_slice hr_; clear hb_ hr_ HSP; have hb0 := (blk_cell (Sp.blk HS.out (i := 2) rfl).1 0).trans rfl))
    | (go_at_call 13; go_loud (refine (laws_toAssembly.calls KK A0 c0 l P _ (Kd.C_below HR.out HS.out.below) HC.out HTO2.out).mono ?_; rintro e wc_ ⟨v_, rfl, hs_, hb_⟩; have HS_ := A0_ (Sp.madeS HS.out hb_ hs_); clear HS; have HS := HS_; clear HS_; clear hb_ hs_ hb0 HTO2; obtain ⟨A3, c3, ev_⟩ := Sp.sliceS HS.out (i := 0) rfl; subst ev_))
    | (go_at_call 33; obtain ⟨gx, hg_⟩ : ∃ g_, g_ = (wc_).heap.size := ⟨_, rfl⟩; obtain ⟨wx, hw_⟩ : ∃ w_, w_ = (wc_).alloc (.cells #[.slice A3 P.length c3] 32) := ⟨_, rfl⟩; (try rw [← hw_]); (try rw [← hg_]); have HS_ := A0_ (Sp.box HS.out #[.slice A3 P.length c3] 32); rw [← hw_, ← hg_] at HS_; clear HS; have HS := HS_; clear HS_ hw_ hg_; refine (HIM1.out A3 c3 _ (Sp.readsS HS.out (i := 1) rfl).2.2).mono ?_; rintro e wi_ ⟨v_, rfl, hr_, hb_⟩; have HS_ := A0_ (Sp.made' HS.out hb_ hr_); clear HS; have HS := HS_; clear HS_; obtain ⟨A4, c4, rfl⟩ := Kd.R_slice hr_; clear hb_ hr_ HIM1)
    | (go_at_call 34; go_loud (refine (laws_eqInt64S.calls KK A4 c4 x A2 c2 x true _ (Sp.reads HS.out (i := 0) rfl).2.2 (Sp.reads HS.out (i := 0) rfl).2.1 (Sp.reads HS.out (i := 3) rfl).2.2 (Sp.reads HS.out (i := 3) rfl).2.1 HEI1.out).mono ?_; rintro e wc_ ⟨rfl, hd_⟩; have HS_ := A0_ (Sp.far HS.out hd_.below); clear HS; have HS := HS_; clear HS_; clear hd_ HEI1)))
  have HS_ := A0_ (show Sp w ([Res.row kI 2 w.heap.size (.slice A4 x.length c4) x, Res.blk gx #[.slice A3 P.length c3] 32, Res.rowS kP 34 w.heap.size (.slice A3 P.length c3) P, Res.row kI 2 w.heap.size (.slice A2 x.length c2) x, Res.rowS kP 34 w.heap.size (.slice A1 P.length c1) P, Res.blk gb #[.slice A0 l.length c0] 24] ++ ([] : List Res)) wc_.drew from Sp.drew HS.out)
  clear HS
  have HS := HS_
  clear HS_
  refine start_ (n := 5) (S := fun w' => w'.cell? ⟨gx, 0, none⟩ = some (.slice A3 P.length c3) ∧ w'.cell? ⟨gb, 0, none⟩ = some (.slice A0 l.length c0)) (ds := []) #[false, false, false, false, false] (by kernel_rfl) rfl rfl (⟨(blk_cell (Sp.blk HS.out (i := 1) rfl).1 0).trans rfl, (blk_cell (Sp.blk HS.out (i := 5) rfl).1 0).trans rfl⟩) (fun hHeld => ?_)
  refine with_tabW lawFx.tab10 lawFx.bits10 (fun HT_ HW_ => ?_)
  generalize wc_.drew = wD at HS hHeld ⊢
  refine tk_ 0 (some 51) ?_
  refine tk_ 1 (some 52) ?_
  refine o1_ 2 (some 53) (fun K hK => ?_)
  refine goes_ Try.func13 (by kernel_rfl) rfl #[.agg #[.slice A0 l.length c0]] (by rfl) rfl rfl (by (try simp only [List.map_toArray, List.map_cons, List.map_nil]); first | done | rfl | (simp only [List.length_drop, List.length_take]; rfl)) ?_
  refine (laws_toAssembly.calls KK A0 c0 l P _ (Kd.C_below HR.out HS.out.below) HC.out HTO3.out).mono ?_
  rintro e w7 ⟨v7, rfl, hs_, hb_⟩
  refine ⟨_, rfl, ?_⟩
  have HS_ := A0_ (Sp.madeS HS.out hb_ hs_)
  clear HS
  have HS := HS_
  clear HS_
  clear hb_ hs_
  obtain ⟨A7, c7, ev_⟩ := Sp.sliceS HS.out (i := 0) rfl
  subst ev_
  refine hK.out _ _ (⟨(blk_cell (Sp.blk HS.out (i := 2) rfl).1 0).trans rfl, (blk_cell (Sp.blk HS.out (i := 6) rfl).1 0).trans rfl⟩) (fun hHeld => ?_)
  clear hK K
  refine nm_ (some 53) ?_
  refine o1_ 3 (some 54) (fun K hK => ?_)
  refine goes_ Try.func17 (by kernel_rfl) rfl #[.agg #[.slice A3 P.length c3], .agg #[.slice A7 P.length c7]] (by rfl) rfl rfl (by (try simp only [List.map_toArray, List.map_cons, List.map_nil]); first | done | rfl | (simp only [List.length_drop, List.length_take]; rfl)) ?_
  refine (laws_eqAssembly.calls KK A3 c3 P A7 c7 P true _ (Sp.readsS HS.out (i := 3) rfl).2.2 (Sp.readsS HS.out (i := 3) rfl).2.1 (Sp.readsS HS.out (i := 0) rfl).2.2 (Sp.readsS HS.out (i := 0) rfl).2.1 HEQ.out).mono ?_
  rintro e w8 ⟨rfl, hb_⟩
  refine ⟨_, rfl, ?_⟩
  have HS_ := A0_ (Sp.far HS.out hb_)
  clear HS
  have HS := HS_
  clear HS_
  clear hb_
  refine hK.out _ _ (⟨(blk_cell (Sp.blk HS.out (i := 2) rfl).1 0).trans rfl, (blk_cell (Sp.blk HS.out (i := 6) rfl).1 0).trans rfl⟩) (fun hHeld => ?_)
  clear hK K
  refine nm_ (some 54) ?_
  refine on_ 4 (some 55) ?_
  refine dn_ ?_
  have HS_ := A0_ (Sp.arr (pre := [Res.rowS kP 34 w.heap.size (.slice A7 P.length c7) P, Res.row kI 2 w.heap.size (.slice A4 x.length c4) x, Res.blk gx #[.slice A3 P.length c3] 32, Res.rowS kP 34 w.heap.size (.slice A3 P.length c3) P, Res.row kI 2 w.heap.size (.slice A2 x.length c2) x, Res.rowS kP 34 w.heap.size (.slice A1 P.length c1) P, Res.blk gb #[.slice A0 l.length c0] 24]) (pre' := [Res.row kI 2 w.heap.size (.slice A4 x.length c4) x, Res.rowS kP 34 w.heap.size (.slice A3 P.length c3) P, Res.row kI 2 w.heap.size (.slice A2 x.length c2) x, Res.blk gb #[.slice A0 l.length c0] 24, Res.blk gx #[.slice A3 P.length c3] 32, Res.rowS kP 34 w.heap.size (.slice A1 P.length c1) P, Res.rowS kP 34 w.heap.size (.slice A7 P.length c7) P]) (rest := ([] : List Res)) [1, 3, 4, 6, 2, 5, 0] HS.out rfl rfl)
  clear HS
  have HS := HS_
  clear HS_
  have hx0 := (blk_cell (Sp.blk HS.out (i := 4) rfl).1 0).trans rfl
  go_wp2_with (first
    | (go_at_call 19; obtain ⟨fp_, hs_, hc_⟩ := Sp.markS HS.out (i := 1) rfl; refine (laws_markAssembly.calls2 P fp_ A3 P.length c3 1 w _ HS.out.below hs_ (by decide) HT3.out HZ.out.len HZ.out.each).mono ?_; rintro e w9 ⟨rfl, rows', hs2, hb, hk⟩; have HS_ := A0_ (hc_ _ _ hs2 hb hk); clear HS; have HS := HS_; clear HS_; clear hs_ hc_ hs2 hb hk hx0)
    | (go_at_call 34; go_loud (refine (laws_eqInt64S.calls KK A4 c4 x A2 c2 x true _ (Sp.reads HS.out (i := 0) rfl).2.2 (Sp.reads HS.out (i := 0) rfl).2.1 (Sp.reads HS.out (i := 2) rfl).2.2 (Sp.reads HS.out (i := 2) rfl).2.1 HEI2.out).mono ?_; rintro e wc_ ⟨rfl, hd_⟩; have HS_ := A0_ (Sp.far HS.out hd_.below); clear HS; have HS := HS_; clear HS_; clear hd_ HEI2))
    | (go_at_call 35; obtain ⟨fp_, hr_, hc_⟩ := Sp.markR HS.out (i := 0) rfl; refine (laws_markInt64S.calls KK fp_ _ x 1 (1 + (x.length : Int)) (ints 1 x.length) w _ HS.out.below hr_ HMK.out).mono ?_; rintro e w11 ⟨rfl, ho, hb, hk⟩; have HS_ := A0_ (hc_ _ _ ho hb hk); clear HS; have HS := HS_; clear HS_; clear hr_ hc_ ho hb hk)
    | (go_at_call 36; have hh_ := laws_heldInt64S.calls KK A4 c4 (ints 1 x.length) 1 (1 + (x.length : Int)) _ (Sp.reads HS.out (i := 0) rfl).2.2 (by rw [ints_len]; exact (Sp.reads HS.out (i := 0) rfl).2.1) HHD1.out; rw [ints_len] at hh_; refine hh_.mono ?_; rintro e w12 ⟨rfl, hd_⟩; have HS_ := A0_ (Sp.far HS.out hd_.below); clear HS; have HS := HS_; clear HS_; clear hd_ hh_ HHD1; have hb0 := (blk_cell (Sp.blk HS.out (i := 3) rfl).1 0).trans rfl)
    | (go_at_call 13; go_loud (refine (laws_toAssembly.calls KK A0 c0 l P _ (Kd.C_below HR.out HS.out.below) HC.out HTO4.out).mono ?_; rintro e wc_ ⟨v_, rfl, hs_, hb_⟩; have HS_ := A0_ (Sp.madeS HS.out hb_ hs_); clear HS; have HS := HS_; clear HS_; clear hb_ hs_ hb0 HTO4; obtain ⟨A13, c13, ev_⟩ := Sp.sliceS HS.out (i := 0) rfl; subst ev_))
    | (go_at_call 33; go_loud (refine (HIM2.out A13 c13 _ (Sp.readsS HS.out (i := 0) rfl).2.2).mono ?_; rintro e wc_ ⟨v_, rfl, hr_, hb_⟩; have HS_ := A0_ (Sp.made' HS.out hb_ hr_); clear HS; have HS := HS_; clear HS_; obtain ⟨A14, c14, rfl⟩ := Kd.R_slice hr_; clear hb_ hr_ HIM2))
    | (go_at_call 34; go_loud (refine (laws_eqInt64S.calls KK A14 c14 x A2 c2 x true _ (Sp.reads HS.out (i := 0) rfl).2.2 (Sp.reads HS.out (i := 0) rfl).2.1 (Sp.reads HS.out (i := 4) rfl).2.2 (Sp.reads HS.out (i := 4) rfl).2.1 HEI3.out).mono ?_; rintro e wc_ ⟨rfl, hd_⟩; have HS_ := A0_ (Sp.far HS.out hd_.below); clear HS; have HS := HS_; clear HS_; clear hd_ HEI3))
    | (go_at_call 36; have hh_ := laws_heldInt64S.calls KK A4 c4 (ints 1 x.length) 1 (1 + (x.length : Int)) _ (Sp.reads HS.out (i := 2) rfl).2.2 (by rw [ints_len]; exact (Sp.reads HS.out (i := 2) rfl).2.1) HHD2.out; rw [ints_len] at hh_; refine hh_.mono ?_; rintro e w16 ⟨rfl, hd_⟩; have HS_ := A0_ (Sp.far HS.out hd_.below); clear HS; have HS := HS_; clear HS_; clear hd_ hh_ HHD2))
  go_ret
  exact ⟨rfl, HS.out.below⟩
set_option maxHeartbeats 1000000 in
set_option maxRecDepth 100000 in
theorem lawFx_bad (A0 : Option Addr) (c0 : Nat) (l : List (List Lb)) (w : World) (hr : Kd.C (Kd.slice 71 k71) w A0 l.length l) (hc : l.length ≤ c0) (KK : Nat) (hsz : laws_szAssembly.f KK l 1048576 = some (-1)) :
    Calls Try.prog 7 #[.agg #[.slice A0 l.length c0]] w fun e w' => e = .returned (.bool true) ∧ Below w.heap.size w w' := by
  have hu24 := Try.underlying24
  have HR := A0_ hr
  have HC := A0_ hc
  have HSZ := A0_ hsz
  have HS := A0_ (Sp.start w)
  clear hr hc hsz
  go_enter Try.func7, Try.ntmps7
  go_wp2_with (first
    | ((with_reducible refine gate_dst (N := 1) rfl ?_); go_loud (refine box_event ?hg (N := 1) ?hd (cs := #[.slice A0 l.length c0]) (t := 24) ?hr ?_; (case hd => rfl); (case hg => rfl); (case hr => first | (go_simp; done) | (go_simp; rfl)); intro gb hgb_ wb_ hcb_ hbb_; have HS_ := A0_ (Sp.boxed HS.out hgb_ hcb_ hbb_); clear HS; have HS := HS_; clear HS_; clear hgb_ hcb_ hbb_; have hb0 := (blk_cell (Sp.blk HS.out (i := 0) rfl).1 0).trans rfl))
    | (go_at_call 10; go_loud (refine (laws_szAssembly.calls KK A0 c0 l 1048576 (-1) _ (Kd.C_below HR.out HS.out.below) HC.out HSZ.out).mono ?_; rintro e wc_ ⟨rfl, hb_⟩; have HS_ := A0_ (Sp.far HS.out hb_); clear HS; have HS := HS_; clear HS_; clear hb_ hb0 HSZ)))
  go_ret
  exact ⟨rfl, HS.out.below⟩
open Classical in
/-- What the law answers, where its input is of a size that a machine has. -/
noncomputable def laws_FnExactFindExit.f (k : Nat) (l : List (List Lb)) : Option Bool := if l.length ≤ maxLen ∧ ∀ r ∈ l, r.length ≤ maxLen then some true else none
theorem laws_FnExactFindExit.calls (k : Nat) (A0_0 : Option Addr) (c0_0 : Nat) (l0_0 : List (List Lb)) (r : Bool) (w : World) (hr0_0 : Kd.C (Kd.slice 71 k71) w A0_0 l0_0.length l0_0) (hc0_0 : l0_0.length ≤ c0_0) (h : laws_FnExactFindExit.f k l0_0 = some r) :
    Calls Try.prog 7 #[.agg #[.slice A0_0 l0_0.length c0_0]] w fun e w' => e = .returned (.bool r) ∧ Below w.heap.size w w' := by
  unfold laws_FnExactFindExit.f at h
  split at h
  case isFalse => cases h
  rename_i hok
  obtain rfl := Option.some.inj h
  obtain ⟨K1, h1⟩ := szAssembly_ev l0_0 1048576 (by omega) hok.1 hok.2
  by_cases c : szL l0_0 1048576 < 0
  · rw [if_pos c] at h1
    exact lawFx_bad A0_0 c0_0 l0_0 w hr0_0 hc0_0 K1 (h1 K1 (Nat.le_refl _))
  · rw [if_neg c] at h1
    obtain ⟨hsz, hz⟩ := szL_eq l0_0 1048576 (by omega) c
    obtain ⟨K2, h2⟩ := toAssembly_ev l0_0 hz
    obtain ⟨K3, h3⟩ := eqAssembly_ev (toP l0_0) (toP_ok hz)
    obtain ⟨x, x1, x2, hx⟩ : ∃ x x1 x2, exitR (toP l0_0) = (x, x1, x2) := ⟨_, _, _, rfl⟩
    have hxl : x.length ≤ 1200 := by have := exitR_len (toP l0_0); rw [hx] at this; exact this
    obtain ⟨K4, h4⟩ := eqInt64S_ev x (by omega)
    obtain ⟨K5, h5⟩ := markInt64S_ev x 1 (by omega) (by decide) (by decide)
    obtain ⟨K6, h6⟩ := heldInts_ev' 1 x.length (by decide) (by omega)
    exact lawFx_good A0_0 c0_0 l0_0 w hr0_0 hc0_0 (K1 + K2 + K3 + K4 + K5 + K6) _ (h1 _ (by omega)) c (toP l0_0) (toP_ok hz) (h2 _ (by omega)) (h3 _ (by omega)) x x1 x2 hx (h4 _ (by omega)) (h5 _ (by omega)) (h6 _ (by omega))
end Go.Proofs.Ytlbckkagjekhnaa.A

/- The plain statement of the law FnExactFindExit, over numbers and lists alone, and how its arguments are opened. -/
namespace Go.Proofs.Ytlbckkagjekhnaa.A
open Go.RowKit Go.Proofs.YtlbckkagjekhnaaW.PrintWords Go.Proofs.YtlbckkagjekhnaaW.PrintLast Go.Proofs.YtlbckkagjekhnaaW.PrintMore
def ok71 (x : S71) : Prop := (Go.Proofs.Ytlbckkagjekhnaa.Opn.okTwo (Go.Proofs.Ytlbckkagjekhnaa.Opn.okInt .i64) (Go.Proofs.Ytlbckkagjekhnaa.Opn.okTwo (Go.Proofs.Ytlbckkagjekhnaa.Opn.okInt .i64) (Go.Proofs.Ytlbckkagjekhnaa.Opn.okInt .i64))) (x.f0, x.f1, x.f2)
def ok24 (x : S24) : Prop := (Go.Proofs.Ytlbckkagjekhnaa.Opn.okAll (Go.Proofs.Ytlbckkagjekhnaa.Opn.okAll ok71)) x.f0
theorem op2 : Go.Proofs.Ytlbckkagjekhnaa.Opn.Op Try.prog 2 (Kd.int .i64) (Go.Proofs.Ytlbckkagjekhnaa.Opn.okInt .i64) := Go.Proofs.Ytlbckkagjekhnaa.Opn.Op.int Try.underlying2
theorem op71 : Go.Proofs.Ytlbckkagjekhnaa.Opn.Op Try.prog 71 k71 ok71 := Go.Proofs.Ytlbckkagjekhnaa.Opn.Op.iso (Go.Proofs.Ytlbckkagjekhnaa.Opn.Op.struct Try.underlying71 (by kernel_rfl) (Go.Proofs.Ytlbckkagjekhnaa.Opn.OpF.cons rfl (by kernel_rfl) op2 (Go.Proofs.Ytlbckkagjekhnaa.Opn.OpF.cons rfl (by kernel_rfl) op2 (Go.Proofs.Ytlbckkagjekhnaa.Opn.OpF.one rfl (by kernel_rfl) op2)))) (fun x : S71 => (x.f0, x.f1, x.f2)) (fun p => ⟨p.1, p.2.1, p.2.2⟩) (fun _ => rfl)
theorem op25 : Go.Proofs.Ytlbckkagjekhnaa.Opn.Op Try.prog 25 (Kd.slice 71 k71) (Go.Proofs.Ytlbckkagjekhnaa.Opn.okAll ok71) := Go.Proofs.Ytlbckkagjekhnaa.Opn.Op.slice Try.underlying25 (by kernel_rfl) op71
theorem op22 : Go.Proofs.Ytlbckkagjekhnaa.Opn.Op Try.prog 22 (Kd.slice 25 (Kd.slice 71 k71)) (Go.Proofs.Ytlbckkagjekhnaa.Opn.okAll (Go.Proofs.Ytlbckkagjekhnaa.Opn.okAll ok71)) := Go.Proofs.Ytlbckkagjekhnaa.Opn.Op.slice Try.underlying22 (by kernel_rfl) op25
theorem op24 : Go.Proofs.Ytlbckkagjekhnaa.Opn.Op Try.prog 24 k24 ok24 := Go.Proofs.Ytlbckkagjekhnaa.Opn.Op.iso (Go.Proofs.Ytlbckkagjekhnaa.Opn.Op.struct Try.underlying24 (by kernel_rfl) (Go.Proofs.Ytlbckkagjekhnaa.Opn.OpF.one rfl (by kernel_rfl) op22)) (fun x : S24 => x.f0) (fun p => ⟨p⟩) (fun _ => rfl)
def FnExactFindExit.Pure : Prop := ∀ (a0 : S24), ok24 a0 → ∃ k, laws_FnExactFindExit.f k (a0.f0) = some true
end Go.Proofs.Ytlbckkagjekhnaa.A

/- FindExit: the law's contract answers true. -/
namespace Go.Proofs.Ytlbckkagjekhnaa.Pure
open Go.RowKit Go.Proofs.YtlbckkagjekhnaaW.PrintWords Go.Proofs.YtlbckkagjekhnaaW.PrintLast Go.Proofs.YtlbckkagjekhnaaW.PrintMore Go.Proofs.Ytlbckkagjekhnaa.A
theorem FnExactFindExit : Go.Proofs.Ytlbckkagjekhnaa.A.FnExactFindExit.Pure := by
  intro a0 hok
  refine ⟨0, ?_⟩
  unfold laws_FnExactFindExit.f
  exact if_pos ⟨hok.1, fun r hr => (hok.2 r hr).1⟩
end Go.Proofs.Ytlbckkagjekhnaa.Pure

