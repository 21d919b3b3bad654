/- What the row of the law FnExactStageOrder stands on, part 3. -/
import Derived.Test.YtlbckkagjekhnaaMFnExactStageOrder2
namespace Go.Proofs.Ytlbckkagjekhnaa.A
open Go.RowKit Go.Proofs.YtlbckkagjekhnaaW.PrintWords Go.Proofs.YtlbckkagjekhnaaW.PrintLast Go.Proofs.YtlbckkagjekhnaaW.PrintMore
attribute [local go_sem] max2_int min2_int max_two min_two max_three min_three max_four min_four   -- for this text's walks alone
set_option linter.unusedVariables false
set_option linter.unusedSimpArgs false
def spec_l27After.l0 : Nat → List (S69) → Int → List (S69) → Int → Option ((List (S69)))
  | 0, _, _, _, _ => none
  | k + 1, x0, x1, x5, x6 => if x6 < (x0.length : Int) then (if 0 ≤ (IntKind.u64.wrap (x6)) then (if (Go.bits .and .i64 (shr .i64 (wrap64 (Int.tdiv x1 6)) (IntKind.u64.wrap (x6))) 1) = 1 then (if 0 ≤ x6 then ((spec_l27Vector.f (Int.tmod x1 6)).bind fun bt397 => ((spec_l09Add.f ((rd_T69 x0 x6).f0) ((rd_T69 x0 x6).f1) ((rd_T69 x0 x6).f2) bt397.1 bt397.2.1 bt397.2.2).bind fun bt400 => (if x5.length < 5864062014805 then (spec_l27After.l0 k x0 x1 (x5 ++ [(⟨bt400.1, bt400.2.1, bt400.2.2⟩ : S69)]) (wrap64 (x6 + 1))) else (none)))) else (none)) else (if 0 ≤ x6 then (if x5.length < 5864062014805 then (spec_l27After.l0 k x0 x1 (x5 ++ [(⟨(rd_T69 x0 x6).f0, (rd_T69 x0 x6).f1, (rd_T69 x0 x6).f2⟩ : S69)]) (wrap64 (x6 + 1))) else (none)) else (none))) else (none)) else (some x5)
def spec_l27After.f (k : Nat) (l0 : List (S69)) (a1 : Int) : Option ((List (S69))) := spec_l27After.l0 k l0 a1 (([] : List (S69))) 0
def spec_l27After.T6 : Bool × List (List Nat × List Nat) := (true, [([], []), ([], []), ([], []), ([1, 2], [1, 2]), ([3], [3]), ([], []), ([5], [5]), ([6], [6]), ([4, 7, 7], [4, 7]), ([8], [8]), ([0, 9, 8], [0, 9]), ([10, 10, 0, 1, 2, 3, 4, 5, 6, 7, 8, 9, 10], [0, 10])])
def spec_l27After.B6 : List Nat := [0, 0, 0, 6, 14, 0, 32, 96, 254, 510, 1023, 2047]
theorem spec_l27After.tab6 : rtab .any (opsOf Try.f104 6) = spec_l27After.T6 := by kernel_rfl
theorem spec_l27After.bits6 : waitsOk spec_l27After.T6.2 spec_l27After.B6 = true := by kernel_rfl
set_option maxHeartbeats 8000000 in
set_option maxRecDepth 100000 in
theorem spec_l27After.calls (k : Nat) (A0 : Option Addr) (c0 : Nat) (l0 : List (S69)) (a1 : Int) (r : List (S69)) (w : World) (hr0 : Kd.C k69 w A0 l0.length l0) (hc0 : l0.length ≤ c0) (h : spec_l27After.f k l0 a1 = some r) :
    Calls Try.prog 104 #[.slice A0 l0.length c0, .int .i64 a1] w fun e w' => ∃ v0_ : Value, e = .returned (v0_) ∧ Kd.R k69 69 w' w.heap.size (fun _ => True) v0_ r ∧ Below w.heap.size w w' := by
 (have hu69 := Try.underlying69); (have HR0 := A0_ hr0); (have HC0 := A0_ hc0); clear hr0 hc0; (have HB := A0_ (Below.refl w.heap.size w)); (have H : (spec_l27After.l0 k l0 a1 (([] : List (S69))) 0) = some r := h); clear h; (obtain ⟨y393, hy393⟩ : ∃ y_ : List (S69), y_ = (([] : List (S69))) := ⟨_, rfl⟩); (replace H : (spec_l27After.l0 k l0 a1 y393 0) = some r := by first | (rw [hy393]; with_reducible exact H) | (have H2_ := (Option.bind_some _ _).symm.trans H; rw [hy393]; with_reducible exact H2_) | (have H2_ := (Option.bind_some _ _).symm.trans H; with_reducible exact H2_) | with_reducible exact H | (rw [hy393]; exact H) | exact H); (have Ny393 := A0_ hy393); clear hy393; (have H' := A0_ H); clear H; (go_enter Try.func104, Try.ntmps104)
 go_wp2_with (first | ((with_reducible refine gate_dst (N := 7) rfl ?_); refine Kd.R_lit k69 _ 69 ?hg (N := 7) ?hd (xs := ([] : List (S69))) (inner := []) (ok := fun _ => True) (okp := fun _ => True) ?hr ?hp (fun _ hk => hk) trivial (Below.refl _ _) (Nat.le_refl _) (by simp) ?_; (case hd => rfl); (case hg => rfl); (case hr => first | (go_simp; done) | (go_simp; rfl)); (case hp => exact (Reps.none _ _)); intro v394 w3 ho4 hb hg_ hnew_; clear hg_ hnew_; (first | rw [← Ny393.out] at ho4 | (simp only [Int.reduceToNat] at ho4; rw [← Ny393.out] at ho4)); have n0_ := A0_ (Kd.R_lower ho4 (below_size (by repeat (first | (with_reducible first | exact HB.out | apply ba_ | apply bn_ | apply bd_) | exact HB.out)))); have n1_ := A0_ (below_step (by repeat (first | (with_reducible first | exact HB.out | apply ba_ | apply bn_ | apply bd_) | exact HB.out)) hb); clear HB; have HO395 := n0_; have HB := n1_; clear n0_ n1_; clear hb ho4))
 go_loopg [5, 6] k (fun kq v5 v6 w' => ∃ (x5_1 : List (S69)) (x6_1 : Int), v6 = .int .i64 x6_1 ∧ Aside0 (spec_l27After.l0 kq l0 a1 x5_1 x6_1 = some r) ∧ Aside0 (kq ≤ k) ∧ Aside0 (Kd.R k69 69 w' w.heap.size (fun _ => True) v5 x5_1) ∧ Aside0 (Below w.heap.size w w'))
 case atStart => exact ⟨(y393), (0), (by first | rfl | (simp; done) | (simp [*]; done)), H', ⟨Nat.le_refl _⟩, ⟨by (with_reducible repeat (first | apply Ra_ | apply Rn_ | apply Rd_)); exact HO395.out⟩, ⟨by repeat (first | (with_reducible first | exact HB.out | apply ba_ | apply bn_ | apply bd_) | exact HB.out)⟩⟩
 case round =>
  clear H'; (try clear c1); (try clear p2); (obtain ⟨x5_1, x6_1, rfl, HA, HK1, HO_5, HB⟩ := hrel)
  cases gk with
  | zero => exact absurd HA.out (by simp [spec_l27After.l0])
  | succ k1 =>
   (have H := HA.out); clear HA; (simp only [spec_l27After.l0] at H); (by_cases c5 : x6_1 < (l0.length : Int))
   ·(rw [if_pos c5] at H); (have c5b0 : decide (x6_1 < (l0.length : Int)) = true := decide_eq_true c5); clear c5; (obtain ⟨ji6, hji6⟩ : ∃ j_ : Int, (IntKind.u64.wrap (x6_1)) = j_ := ⟨_, rfl⟩)
    replace H : (if 0 ≤ (ji6) then (if (Go.bits .and .i64 (shr .i64 (wrap64 (Int.tdiv a1 6)) (ji6)) 1) = 1 then (if 0 ≤ x6_1 then ((spec_l27Vector.f (Int.tmod a1 6)).bind fun bt397 => ((spec_l09Add.f ((rd_T69 l0 x6_1).f0) ((rd_T69 l0 x6_1).f1) ((rd_T69 l0 x6_1).f2) bt397.1 bt397.2.1 bt397.2.2).bind fun bt400 => (if x5_1.length < 5864062014805 then (spec_l27After.l0 k1 l0 a1 (x5_1 ++ [(⟨bt400.1, bt400.2.1, bt400.2.2⟩ : S69)]) (wrap64 (x6_1 + 1))) else (none)))) else (none)) else (if 0 ≤ x6_1 then (if x5_1.length < 5864062014805 then (spec_l27After.l0 k1 l0 a1 (x5_1 ++ [(⟨(rd_T69 l0 x6_1).f0, (rd_T69 l0 x6_1).f1, (rd_T69 l0 x6_1).f2⟩ : S69)]) (wrap64 (x6_1 + 1))) else (none)) else (none))) else (none)) = some r := by first | (rw [hji6] at H; exact H) | (simp only [hji6] at H ⊢; exact H)
    (by_cases c7 : 0 ≤ (ji6))
    ·(rw [if_pos c7] at H); (have c7b0 := eq_true c7); (have c7b1 : decide (0 ≤ (ji6)) = true := decide_eq_true c7); clear c7; (obtain ⟨ji8, hji8⟩ : ∃ j_ : Int, (shr .i64 (wrap64 (Int.tdiv a1 6)) (ji6)) = j_ := ⟨_, rfl⟩)
     replace H : (if (Go.bits .and .i64 (ji8) 1) = 1 then (if 0 ≤ x6_1 then ((spec_l27Vector.f (Int.tmod a1 6)).bind fun bt397 => ((spec_l09Add.f ((rd_T69 l0 x6_1).f0) ((rd_T69 l0 x6_1).f1) ((rd_T69 l0 x6_1).f2) bt397.1 bt397.2.1 bt397.2.2).bind fun bt400 => (if x5_1.length < 5864062014805 then (spec_l27After.l0 k1 l0 a1 (x5_1 ++ [(⟨bt400.1, bt400.2.1, bt400.2.2⟩ : S69)]) (wrap64 (x6_1 + 1))) else (none)))) else (none)) else (if 0 ≤ x6_1 then (if x5_1.length < 5864062014805 then (spec_l27After.l0 k1 l0 a1 (x5_1 ++ [(⟨(rd_T69 l0 x6_1).f0, (rd_T69 l0 x6_1).f1, (rd_T69 l0 x6_1).f2⟩ : S69)]) (wrap64 (x6_1 + 1))) else (none)) else (none))) = some r := by first | (rw [hji8] at H; exact H) | (simp only [hji8] at H ⊢; exact H)
     (have hji8_ : ((wrap64 (Int.tdiv a1 6)) / 2 ^ min (ji6).toNat 64) = ji8 := hji8); (have hji8z : (ji6) ≤ 64 → ((wrap64 (Int.tdiv a1 6)) / 2 ^ (ji6).toNat) = ji8 := shr_small hji8); (by_cases c9 : (Go.bits .and .i64 (ji8) 1) = 1)
     ·(rw [if_pos c9] at H); (have c9b0 : ((Go.bits .and .i64 (ji8) 1) == 1) = true := beq_iff_eq.mpr c9); (have c9b1 : ((Go.bits .and .i64 (ji8) 1) != 1) = false := bne_eq_false_iff_eq.mpr c9); clear c9; (by_cases c10 : 0 ≤ x6_1)
      ·(rw [if_pos c10] at H); (have c10b0 : decide (0 ≤ x6_1) = true := decide_eq_true c10); clear c10; (replace H := Option.bind_eq_some_iff.mp H); (obtain ⟨⟨t397, t398, t399⟩, A110, H⟩ := H); (try dsimp only at H); (have A11 := A0_ A110); clear A110; (replace H := Option.bind_eq_some_iff.mp H); (obtain ⟨⟨t400, t401, t402⟩, A120, H⟩ := H); (try dsimp only at H); (have A12 := A0_ A120); clear A120; (by_cases c13 : x5_1.length < 5864062014805)
       ·(rw [if_pos c13] at H); (have LMc13 := A0_ c13); clear c13; (obtain ⟨y403, hy403⟩ : ∃ y_ : List (S69), y_ = (x5_1 ++ [(⟨t400, t401, t402⟩ : S69)]) := ⟨_, rfl⟩); (replace H : (spec_l27After.l0 k1 l0 a1 y403 (wrap64 (x6_1 + 1))) = some r := by first | (rw [hy403]; with_reducible exact H) | (have H2_ := (Option.bind_some _ _).symm.trans H; rw [hy403]; with_reducible exact H2_) | (have H2_ := (Option.bind_some _ _).symm.trans H; with_reducible exact H2_) | with_reducible exact H | (rw [hy403]; exact H) | exact H); (have Ny403 := A0_ hy403); clear hy403; (have H' := A0_ H); clear H; (try go_wp2); (have n0_ := A0_ (Kd.R_drew HO_5.out)); (have n1_ := A0_ (below_drew1 HB.out)); clear HO_5; clear HB; (have HO_5 := n0_); (have HB := n1_); clear n0_ n1_; (have p396 : 0 ≤ (x6_1 : Int) := of_decide_eq_true (by first | (with_reducible assumption) | assumption)); (have q396 : x6_1 < (l0.length : Int) := of_decide_eq_true (by first | (with_reducible assumption) | assumption)); (obtain ⟨ad396, e396, hx396_0, hx396_1, hx396_2⟩ := at_T69 HR0.out x6_1 p396 q396); (have hw396_2 := hx396_2); (have hw396_1 := hx396_1); (have hw396_0 := hx396_0); (cases e396); (replace hx396_0 := (HB.out.cell (World.block_lt_of_cell? w _ hx396_0)).trans hx396_0); (replace hx396_1 := (HB.out.cell (World.block_lt_of_cell? w _ hx396_1)).trans hx396_1); (replace hx396_2 := (HB.out.cell (World.block_lt_of_cell? w _ hx396_2)).trans hx396_2); (replace p396 := eq_true p396); (replace q396 := eq_true q396)
        refine start_ (n := 12) (S := fun w' => w'.cell? (ad396.add ((x6_1).toNat * 3)) = some (.int .i64 ((rd_T69 l0 x6_1).f0)) ∧ w'.cell? ⟨(ad396.add ((x6_1).toNat * 3)).block, (ad396.add ((x6_1).toNat * 3)).off + 1, none⟩ = some (.int .i64 ((rd_T69 l0 x6_1).f1)) ∧ w'.cell? ⟨(ad396.add ((x6_1).toNat * 3)).block, (ad396.add ((x6_1).toNat * 3)).off + 2, none⟩ = some (.int .i64 ((rd_T69 l0 x6_1).f2))) (ds := []) #[ff,ff,ff,ff,ff,ff,ff,ff,ff,ff,ff,ff] (by kernel_rfl) rfl rfl ⟨((HB.out.cell (World.block_lt_of_cell? w _ hw396_0)).trans hw396_0), ((HB.out.cell (World.block_lt_of_cell? w _ hw396_1)).trans hw396_1), ((HB.out.cell (World.block_lt_of_cell? w _ hw396_2)).trans hw396_2)⟩ (fun hHeld => ?_); refine with_tabW spec_l27After.tab6 spec_l27After.bits6 (fun HT_ HW_ => ?_)
        (generalize wr.drew = w14 at HO_5 HB hx396_0 hx396_1 hx396_2 hHeld ⊢)
        refine pure_ (i := 0) (N := some 21) (v := ?_) (a' := ?_) #[tt,ff,ff,ff,ff,ff,ff,ff,ff,ff,ff,ff] rfl rfl (any_of HT_.out (by kernel_rfl)) (fun _ _ _ h => h) (Or.inl ⟨by rfl, ?_⟩) ?_ ?_
        rotate_left
        ·intro w'; go_simp; with_reducible rfl
        rotate_left
        ·(simp only [Act.put, sia_, sz_, ss_, i64_w, i32_w]); rfl
        refine pure_ (i := 1) (N := some 22) (v := ?_) (a' := ?_) #[tt,tt,ff,ff,ff,ff,ff,ff,ff,ff,ff,ff] rfl rfl (any_of HT_.out (by kernel_rfl)) (fun _ _ _ h => h) (Or.inl ⟨by rfl, ?_⟩) ?_ ?_
        rotate_left
        ·intro w'; go_simp; with_reducible rfl
        rotate_left
        ·(simp only [Act.put, sia_, sz_, ss_, i64_w, i32_w]); rfl
        refine pure_ (i := 2) (N := some 23) (v := ?_) (a' := ?_) #[tt,tt,tt,ff,ff,ff,ff,ff,ff,ff,ff,ff] rfl rfl (any_of HT_.out (by kernel_rfl)) (fun _ _ _ h => h) (Or.inl ⟨by rfl, ?_⟩) ?_ ?_
        rotate_left
        ·intro w'; go_simp; with_reducible rfl
        rotate_left
        ·(simp only [Act.put, sia_, sz_, ss_, i64_w, i32_w]); rfl
        refine pure_ (i := 3) (N := some 24) (v := ?_) (a' := ?_) #[tt,tt,tt,tt,ff,ff,ff,ff,ff,ff,ff,ff] rfl rfl (any_of HT_.out (by kernel_rfl)) (fun _ _ _ h => h) (Or.inl ⟨by rfl, ?_⟩) ?_ ?_
        rotate_left
        ·intro w'; go_simp; with_reducible rfl
        rotate_left
        ·(simp only [Act.put, sia_, sz_, ss_, i64_w, i32_w]); rfl
        refine pure_ (i := 5) (N := some 26) (v := ?_) (a' := ?_) #[tt,tt,tt,tt,ff,tt,ff,ff,ff,ff,ff,ff] rfl rfl (any_of HT_.out (by kernel_rfl)) (fun _ _ _ h => h) (Or.inl ⟨by rfl, ?_⟩) ?_ ?_
        rotate_left
        ·intro w'; go_simp; with_reducible rfl
        rotate_left
        ·(simp only [Act.put, sia_, sz_, ss_, i64_w, i32_w]); rfl
        refine pure_ (i := 6) (N := some 27) (v := ?_) (a' := ?_) #[tt,tt,tt,tt,ff,tt,tt,ff,ff,ff,ff,ff] rfl rfl (any_of HT_.out (by kernel_rfl)) (fun _ _ _ h => h) (Or.inl ⟨by rfl, ?_⟩) ?_ ?_
        rotate_left
        ·intro w'; go_simp; with_reducible rfl
        rotate_left
        ·(simp only [Act.put, sia_, sz_, ss_, i64_w, i32_w]); rfl
        refine take_ (i := 4) (N := some 25) (v := ?_) (a' := ?_) #[tt,tt,tt,tt,tt,tt,tt,ff,ff,ff,ff,ff] rfl rfl (take_ofW HT_.out HW_.out (by kernel_rfl)) (fun _ _ _ h => h) (Or.inl ⟨by rfl, ?_⟩) hHeld ?_ ?_
        rotate_left
        ·(rintro w' ⟨s0, s1, s2⟩); go_simp; with_reducible rfl
        rotate_left
        ·(simp only [Act.put, sia_, sz_, ss_, i64_w, i32_w]); rfl
        refine one_ (i := 7) (N := some 28) #[tt,tt,tt,tt,tt,tt,tt,tt,ff,ff,ff,ff] rfl rfl (one_of HT_.out (by kernel_rfl)) (by decide) (fun K hK => ?_)
        (refine goes_ Try.func117 (by kernel_rfl) rfl #[.int .i64 (Int.tmod a1 6)] (by rfl) rfl rfl (by (try simp only [List.map_toArray, List.map_cons, List.map_nil]); first | done | rfl | (simp only [List.length_drop, List.length_take]; rfl)) ?_); (with_reducible refine (spec_l27Vector.calls (Int.tmod a1 6) t397 t398 t399 _ A11.out).mono ?_); (rintro e w15 ⟨rfl, hb⟩); (refine ⟨_, rfl, ?_⟩); (have n0_ := A0_ (Kd.R_below (by (with_reducible repeat (first | apply Ra_ | apply Rn_ | apply Rd_)); exact HO_5.out) hb)); (have n1_ := A0_ (below_step (by repeat (first | (with_reducible first | exact HB.out | apply ba_ | apply bn_ | apply bd_) | exact HB.out)) hb)); clear HO_5; clear HB; (have HO_5 := n0_); (have HB := n1_); clear n0_ n1_; ((try clear hb)); ((try clear hb2)); ((try clear hk)); ((try clear hi))
        refine hK.out _ _ ⟨((HB.out.cell (World.block_lt_of_cell? w _ hw396_0)).trans hw396_0), ((HB.out.cell (World.block_lt_of_cell? w _ hw396_1)).trans hw396_1), ((HB.out.cell (World.block_lt_of_cell? w _ hw396_2)).trans hw396_2)⟩ (fun hHeld => ?_)
        clear hK K; (refine norm_ (a' := ?_) ?_ ?_); rotate_left
        ·(show Act.put _ (some 28) _ = _); (simp only [Act.put, sia_, sz_, ss_, i64_w, i32_w]); rfl
        refine one_ (i := 8) (N := some 29) #[tt,tt,tt,tt,tt,tt,tt,tt,tt,ff,ff,ff] rfl rfl (one_of HT_.out (by kernel_rfl)) (by decide) (fun K hK => ?_)
        (refine goes_ Try.func96 (by kernel_rfl) rfl #[.agg #[.int .i64 ((rd_T69 l0 x6_1).f0), .int .i64 ((rd_T69 l0 x6_1).f1), .int .i64 ((rd_T69 l0 x6_1).f2)], .agg #[.int .i64 t397, .int .i64 t398, .int .i64 t399]] (by rfl) rfl rfl (by (try simp only [List.map_toArray, List.map_cons, List.map_nil]); first | done | rfl | (simp only [List.length_drop, List.length_take]; rfl)) ?_); (with_reducible refine (spec_l09Add.calls ((rd_T69 l0 x6_1).f0) ((rd_T69 l0 x6_1).f1) ((rd_T69 l0 x6_1).f2) t397 t398 t399 t400 t401 t402 _ A12.out).mono ?_); (rintro e w16 ⟨rfl, hb⟩); (refine ⟨_, rfl, ?_⟩); (have n0_ := A0_ (Kd.R_below (by (with_reducible repeat (first | apply Ra_ | apply Rn_ | apply Rd_)); exact HO_5.out) hb)); (have n1_ := A0_ (below_step (by repeat (first | (with_reducible first | exact HB.out | apply ba_ | apply bn_ | apply bd_) | exact HB.out)) hb)); clear HO_5; clear HB; (have HO_5 := n0_); (have HB := n1_); clear n0_ n1_; ((try clear hb)); ((try clear hb2)); ((try clear hk)); ((try clear hi))
        refine hK.out _ _ ⟨((HB.out.cell (World.block_lt_of_cell? w _ hw396_0)).trans hw396_0), ((HB.out.cell (World.block_lt_of_cell? w _ hw396_1)).trans hw396_1), ((HB.out.cell (World.block_lt_of_cell? w _ hw396_2)).trans hw396_2)⟩ (fun hHeld => ?_)
        clear hK K; (refine norm_ (a' := ?_) ?_ ?_); rotate_left
        ·(show Act.put _ (some 29) _ = _); (simp only [Act.put, sia_, sz_, ss_, i64_w, i32_w]); rfl
        refine one_ (i := 9) (N := some 30) #[tt,tt,tt,tt,tt,tt,tt,tt,tt,tt,ff,ff] rfl rfl (one_of HT_.out (by kernel_rfl)) (by decide) (fun K hK => ?_)
        (refine value_ (w1 := ?_) (v := ?_) (by rfl) rfl ?_ ?_); (rotate_left 2)
        ·go_simp; (constructor)
         ·rfl
         ·rfl
        refine hK.out _ _ ⟨(World.cell?_alloc_lt _ _ _ (World.block_lt_of_cell? _ _ (((HB.out.cell (World.block_lt_of_cell? w _ hw396_0)).trans hw396_0)))).trans (((HB.out.cell (World.block_lt_of_cell? w _ hw396_0)).trans hw396_0)), (World.cell?_alloc_lt _ _ _ (World.block_lt_of_cell? _ _ (((HB.out.cell (World.block_lt_of_cell? w _ hw396_1)).trans hw396_1)))).trans (((HB.out.cell (World.block_lt_of_cell? w _ hw396_1)).trans hw396_1)), (World.cell?_alloc_lt _ _ _ (World.block_lt_of_cell? _ _ (((HB.out.cell (World.block_lt_of_cell? w _ hw396_2)).trans hw396_2)))).trans (((HB.out.cell (World.block_lt_of_cell? w _ hw396_2)).trans hw396_2))⟩ (fun hHeld => ?_)
        clear hK K; (refine norm_ (a' := ?_) ?_ ?_); rotate_left
        ·(show Act.put _ (some 30) _ = _); (simp only [Act.put, sia_, sz_, ss_, i64_w, i32_w]); rfl
        refine one_ (i := 10) (N := some 31) #[tt,tt,tt,tt,tt,tt,tt,tt,tt,tt,tt,ff] rfl rfl (one_of HT_.out (by kernel_rfl)) (by decide) (fun K hK => ?_)
        refine Kd.R_append_step k69 (w0 := w) w.heap.size (by rfl) (.tmp 21) (.tmp 30) 34 69 (.agg #[(.int .i64 0), (.int .i64 0), (.int .i64 0)]) 24 rfl Try.underlying34 info69 rfl (by decide) (by omega) u5 x5_1 (⟨t400, t401, t402⟩ : S69) [.int .i64 t400, .int .i64 t401, .int .i64 t402] (fun _ => True) (fun _ => False) rfl rfl ?aP (fun _ hk => hk.elim) ?aF ?aO ?aB ?aS ?aL ?_
        ((case aP => exact k69_mkM _ _ _ (⟨t400, t401, t402⟩ : S69))); ((case aB => exact (by repeat (first | (with_reducible first | exact HB.out | apply ba_ | apply bn_ | apply bd_) | exact HB.out))))
        (case aF => exact (fun _ _ => trivial))
        ((case aO => exact (by (with_reducible repeat (first | apply Ra_ | apply Rn_ | apply Rd_)); exact HO_5.out))); ((case aS => exact (below_size (by repeat (first | (with_reducible first | exact HB.out | apply ba_ | apply bn_ | apply bd_) | exact HB.out))))); ((case aL => have := LMc13.out; omega)); intro v404 w17 ho hb hg hat; (rw [← Ny403.out] at ho); (have n0_ := A0_ (hb)); (have n1_ := A0_ (ho)); clear HB; clear HO_5; (have HB := n0_); (have HO405 := n1_); clear n0_ n1_; clear ho hb hg hat
        refine hK.out _ _ ⟨((HB.out.cell (World.block_lt_of_cell? w _ hw396_0)).trans hw396_0), ((HB.out.cell (World.block_lt_of_cell? w _ hw396_1)).trans hw396_1), ((HB.out.cell (World.block_lt_of_cell? w _ hw396_2)).trans hw396_2)⟩ (fun hHeld => ?_)
        clear hK K; (refine norm_ (a' := ?_) ?_ ?_); rotate_left
        ·(show Act.put _ (some 31) _ = _); (simp only [Act.put, sia_, sz_, ss_, i64_w, i32_w]); rfl
        refine pure_ (i := 11) (N := some 5) (v := ?_) (a' := ?_) #[tt,tt,tt,tt,tt,tt,tt,tt,tt,tt,tt,tt] rfl rfl (any_of HT_.out (by kernel_rfl)) (fun _ _ _ h => h) (Or.inl ⟨by rfl, ?_⟩) ?_ ?_
        rotate_left
        ·intro w'; go_simp; with_reducible rfl
        rotate_left
        ·(simp only [Act.put, sia_, sz_, ss_, i64_w, i32_w]); rfl
        (refine done_ (done_of HT_.out (by kernel_rfl)) ?_); (try go_wp2); (go_roundg k1)
        case measure => have := HK1.out; omega
        case rel => exact ⟨(y403), (wrap64 (x6_1 + 1)), (by first | rfl | (simp; done) | (simp [*]; done)), H', ⟨by have := HK1.out; omega⟩, ⟨by (with_reducible repeat (first | apply Ra_ | apply Rn_ | apply Rd_)); exact HO405.out⟩, ⟨by repeat (first | (with_reducible first | exact HB.out | apply ba_ | apply bn_ | apply bd_) | exact HB.out)⟩⟩
       ·(rw [if_neg c13] at H); (exact absurd H (by simp))
      ·(rw [if_neg c10] at H); (exact absurd H (by simp))
     ·(rw [if_neg c9] at H); (have c9b0 : ((Go.bits .and .i64 (ji8) 1) == 1) = false := beq_eq_false_iff_ne.mpr c9); (have c9b1 : ((Go.bits .and .i64 (ji8) 1) != 1) = true := bne_iff_ne.mpr c9); (by_cases c18 : 0 ≤ x6_1)
      ·(rw [if_pos c18] at H); (have c18b0 : decide (0 ≤ x6_1) = true := decide_eq_true c18); clear c18; (by_cases c19 : x5_1.length < 5864062014805)
       ·(rw [if_pos c19] at H); (have LMc19 := A0_ c19); clear c19; (obtain ⟨y407, hy407⟩ : ∃ y_ : List (S69), y_ = (x5_1 ++ [(⟨(rd_T69 l0 x6_1).f0, (rd_T69 l0 x6_1).f1, (rd_T69 l0 x6_1).f2⟩ : S69)]) := ⟨_, rfl⟩); (replace H : (spec_l27After.l0 k1 l0 a1 y407 (wrap64 (x6_1 + 1))) = some r := by first | (rw [hy407]; with_reducible exact H) | (have H2_ := (Option.bind_some _ _).symm.trans H; rw [hy407]; with_reducible exact H2_) | (have H2_ := (Option.bind_some _ _).symm.trans H; with_reducible exact H2_) | with_reducible exact H | (rw [hy407]; exact H) | exact H); (have Ny407 := A0_ hy407); clear hy407; (have H' := A0_ H); clear H; (have p406 : 0 ≤ (x6_1 : Int) := of_decide_eq_true (by first | (with_reducible assumption) | assumption)); (have q406 : x6_1 < (l0.length : Int) := of_decide_eq_true (by first | (with_reducible assumption) | assumption)); (obtain ⟨ad406, e406, hx406_0, hx406_1, hx406_2⟩ := at_T69 HR0.out x6_1 p406 q406); (cases e406); (replace hx406_0 := (HB.out.cell (World.block_lt_of_cell? w _ hx406_0)).trans hx406_0); (replace hx406_1 := (HB.out.cell (World.block_lt_of_cell? w _ hx406_1)).trans hx406_1); (replace hx406_2 := (HB.out.cell (World.block_lt_of_cell? w _ hx406_2)).trans hx406_2); (replace p406 := eq_true p406); (replace q406 := eq_true q406)
        go_wp2_with (first | ((with_reducible refine gate_builtin (b := .append) (xs := #[.tmp 32, .tmp 37]) rfl ?_); at_builtin; refine Kd.R_append k69 (w0 := w) w.heap.size rfl (.tmp 32) (.tmp 37) 34 69 (.agg #[(.int .i64 0), (.int .i64 0), (.int .i64 0)]) 24 rfl Try.underlying34 info69 rfl (by decide) (by omega) u5 x5_1 (⟨(rd_T69 l0 x6_1).f0, (rd_T69 l0 x6_1).f1, (rd_T69 l0 x6_1).f2⟩ : S69) [.int .i64 ((rd_T69 l0 x6_1).f0), .int .i64 ((rd_T69 l0 x6_1).f1), .int .i64 ((rd_T69 l0 x6_1).f2)] (fun _ => True) (fun _ => False) rfl rfl ?aP (fun _ hk => hk.elim) ?aF ?aO ?aB ?aS ?aL ?_; (case aP => exact k69_mkM _ _ _ (⟨(rd_T69 l0 x6_1).f0, (rd_T69 l0 x6_1).f1, (rd_T69 l0 x6_1).f2⟩ : S69)); (case aB => exact (by repeat (first | (with_reducible first | exact HB.out | apply ba_ | apply bn_ | apply bd_) | exact HB.out))); (case aF => exact (fun _ _ => trivial)); (case aO => exact (by (with_reducible repeat (first | apply Ra_ | apply Rn_ | apply Rd_)); exact HO_5.out)); (case aS => exact (below_size (by repeat (first | (with_reducible first | exact HB.out | apply ba_ | apply bn_ | apply bd_) | exact HB.out)))); (case aL => have := LMc19.out; omega); intro v408 w20 ho hb hg hat; rw [← Ny407.out] at ho; have n0_ := A0_ (hb); have n1_ := A0_ (ho); clear HB; clear HO_5; have HB := n0_; have HO409 := n1_; clear n0_ n1_; clear ho hb hg hat))
        (go_roundg k1)
        case measure => have := HK1.out; omega
        case rel => exact ⟨(y407), (wrap64 (x6_1 + 1)), (by first | rfl | (simp; done) | (simp [*]; done)), H', ⟨by have := HK1.out; omega⟩, ⟨by (with_reducible repeat (first | apply Ra_ | apply Rn_ | apply Rd_)); exact HO409.out⟩, ⟨by repeat (first | (with_reducible first | exact HB.out | apply ba_ | apply bn_ | apply bd_) | exact HB.out)⟩⟩
       ·(rw [if_neg c19] at H); (exact absurd H (by simp))
      ·(rw [if_neg c18] at H); (exact absurd H (by simp))
    ·(rw [if_neg c7] at H); (exact absurd H (by simp))
   ·(rw [if_neg c5] at H); (have c5b0 : decide (x6_1 < (l0.length : Int)) = false := decide_eq_false c5); clear c5; (obtain rfl := Option.some.inj H); go_wp2; go_ret; (exact ⟨_, by first | rfl | (simp [errW_none, errW_some] <;> rfl) | (simp [*, errW_none, errW_some] <;> rfl), by (with_reducible repeat (first | apply Ra_ | apply Rn_ | apply Rd_)); exact HO_5.out, by repeat (first | (with_reducible first | exact HB.out | apply ba_ | apply bn_ | apply bd_) | exact HB.out)⟩)
end Go.Proofs.Ytlbckkagjekhnaa.A

namespace Go.Proofs.Ytlbckkagjekhnaa.A
open Go.RowKit Go.Proofs.YtlbckkagjekhnaaW.PrintWords Go.Proofs.YtlbckkagjekhnaaW.PrintLast Go.Proofs.YtlbckkagjekhnaaW.PrintMore
attribute [local go_sem] max2_int min2_int max_two min_two max_three min_three max_four min_four   -- for this text's walks alone
set_option linter.unusedVariables false
set_option linter.unusedSimpArgs false
def spec_l27Possible.j0 : Nat → List (S69) → Int → Bool → List (List (S69)) → Option (Bool)
  | 0, _, _, _, _ => none
  | k + 1, x1, x2, x23, x411000 => if x23 = true then (some false) else ((spec_l27After.f k x1 x2).bind fun t412 => ((spec_l27Clear.f k x411000 t412).bind fun t415 => (some t415)))
def spec_l27Possible.f (k : Nat) (l0_0 : List (List (S69))) (l1 : List (S69)) (a2 : Int) : Option (Bool) := if 0 ≤ (IntKind.u64.wrap ((l0_0.length : Int))) then ((spec_l01In.f a2 6 (wrap64 ((shl .i64 6 (IntKind.u64.wrap ((l0_0.length : Int)))) - 1))).bind fun t411 => (if t411 = true then (spec_l27Possible.j0 k l1 a2 ((Int.tmod (wrap64 (Int.tdiv a2 6)) 2) == 1) l0_0) else (spec_l27Possible.j0 k l1 a2 true l0_0))) else (none)
def possF.T4 : Bool × List (List Nat × List Nat) := (true, [([], []), ([], []), ([], []), ([1, 2], [1, 2]), ([0, 3, 3], [0, 3]), ([4, 4, 0, 1, 2, 3, 4], [4])])
def possF.B4 : List Nat := [0, 0, 0, 6, 15, 31]
theorem possF.tab4 : rtab .any (opsOf Try.f116 4) = possF.T4 := by kernel_rfl
theorem possF.bits4 : waitsOk possF.T4.2 possF.B4 = true := by kernel_rfl
set_option maxHeartbeats 8000000 in
set_option maxRecDepth 100000 in
theorem spec_l27Possible.calls (k : Nat) (A0_0 : Option Addr) (c0_0 : Nat) (l0_0 : List (List (S69))) (A1 : Option Addr) (c1 : Nat) (l1 : List (S69)) (a2 : Int) (r : Bool) (w : World) (hr0_0 : Kd.C (Kd.slice 69 k69) w A0_0 l0_0.length l0_0) (hc0_0 : l0_0.length ≤ c0_0) (hr1 : Kd.C k69 w A1 l1.length l1) (hc1 : l1.length ≤ c1) (h : spec_l27Possible.f k l0_0 l1 a2 = some r) :
    Calls Try.prog 116 #[.agg #[.slice A0_0 l0_0.length c0_0], .slice A1 l1.length c1, .int .i64 a2] w fun e w' => e = .returned (.bool r) ∧ Below w.heap.size w w' := by
 (have hu32 := Try.underlying32); (have HS := A0_ (Sp.start w)); (have HP := A0_ hr0_0); (have HCP := A0_ hc0_0); (have HO := A0_ hr1); (have HCO := A0_ hc1); clear hr0_0 hc0_0 hr1 hc1; (unfold spec_l27Possible.f at h); (by_cases c8 : 0 ≤ IntKind.u64.wrap (l0_0.length : Int))
 ·(rw [if_pos c8] at h); (obtain ⟨t, A10, H⟩ := Option.bind_eq_some_iff.mp h); (obtain ⟨ji9, hji8⟩ : ∃ j, shl .i64 6 (IntKind.u64.wrap (l0_0.length : Int)) = j := ⟨_, rfl⟩); (rw [hji8] at A10); (have hji9 : wrap64 (6 * 2 ^ min (IntKind.u64.wrap (l0_0.length : Int)).toNat 64) = ji9 := (i64_w _).symm.trans hji8); (have HIN := A0_ A10); clear h A10 c8 hji8
  have fin : ∀ k x23, spec_l27Possible.j0 k l1 a2 x23 l0_0 = some r → (x23 = true ∧ r = false) ∨ (x23 = false ∧ ∃ K nx, spec_l27After.f K l1 a2 = some nx ∧ spec_l27Clear.f K l0_0 nx = some r) := by
   intro k x23 h
   cases k with
   | zero => cases h
   | succ k =>
    cases x23 with
    | true =>
     have h2 : (if true = true then some false else ((spec_l27After.f k l1 a2).bind fun t412 => ((spec_l27Clear.f k l0_0 t412).bind fun t415 => (some t415)))) = some r := h
     (rw [if_pos rfl] at h2); (exact .inl ⟨rfl, (Option.some.inj h2).symm⟩)
    | false =>
     have h2 : (if false = true then some false else ((spec_l27After.f k l1 a2).bind fun t412 => ((spec_l27Clear.f k l0_0 t412).bind fun t415 => (some t415)))) = some r := h
     (rw [if_neg (by simp)] at h2); (obtain ⟨nx, g1, h3⟩ := Option.bind_eq_some_iff.mp h2); (obtain ⟨b, g2, h4⟩ := Option.bind_eq_some_iff.mp h3); (obtain rfl := Option.some.inj h4); (exact .inr ⟨rfl, k, nx, g1, g2⟩)
  cases t with
  | false =>
   (rw [if_neg (by simp)] at H)
   have hr : r = false := by
    (rcases fin _ _ H with h | h)
    ·(exact h.2)
    ·(cases h.1)
   subst hr; clear fin H; (go_enter Try.func116, Try.ntmps116)
   go_wp2_with (first
    | ((with_reducible refine gate_dst (N := 3) rfl ?_); refine box_event ?hg (N := 3) ?hd (cs := #[.slice A0_0 l0_0.length c0_0]) (t := 32) ?hr ?_; (case hd => rfl); (case hg => rfl); (case hr => first | (go_simp; done) | (go_simp; rfl)); intro ga hgb_ wb_ hcb_ hbb_; have HS_ := A0_ (Sp.boxed HS.out hgb_ hcb_ hbb_); clear HS; have HS := HS_; clear HS_; clear hgb_ hcb_ hbb_; have ha0 := (blk_cell (Sp.blk HS.out (i := 0) rfl).1 0).trans rfl)
    | (go_at_call 45; refine (spec_l01In.calls a2 6 (wrap64 (ji9 - 1)) false _ HIN.out).mono ?_; rintro e wc_ ⟨rfl, hb_⟩; have HS_ := A0_ (Sp.far HS.out hb_.below); clear HS; have HS := HS_; clear HS_; clear hb_ ha0))
   go_ret; (exact ⟨rfl, HS.out.below⟩)
  | true =>
   (rw [if_pos rfl] at H)
   cases hb : ((wrap64 (a2.tdiv 6)).tmod 2 == 1) with
   | true =>
    (rw [hb] at H)
    have hr : r = false := by
     (rcases fin _ _ H with h | h)
     ·(exact h.2)
     ·(cases h.1)
    subst hr; (have hb2 : (wrap64 (a2.tdiv 6)).tmod 2 = 1 := by simpa using hb); clear fin H hb; (go_enter Try.func116, Try.ntmps116)
    go_wp2_with (first
     | ((with_reducible refine gate_dst (N := 3) rfl ?_); refine box_event ?hg (N := 3) ?hd (cs := #[.slice A0_0 l0_0.length c0_0]) (t := 32) ?hr ?_; (case hd => rfl); (case hg => rfl); (case hr => first | (go_simp; done) | (go_simp; rfl)); intro ga hgb_ wb_ hcb_ hbb_; have HS_ := A0_ (Sp.boxed HS.out hgb_ hcb_ hbb_); clear HS; have HS := HS_; clear HS_; clear hgb_ hcb_ hbb_; have ha0 := (blk_cell (Sp.blk HS.out (i := 0) rfl).1 0).trans rfl)
     | (go_at_call 45; refine (spec_l01In.calls a2 6 (wrap64 (ji9 - 1)) true _ HIN.out).mono ?_; rintro e wc_ ⟨rfl, hb_⟩; have HS_ := A0_ (Sp.far HS.out hb_.below); clear HS; have HS := HS_; clear HS_; clear hb_ ha0))
    go_ret; (exact ⟨rfl, HS.out.below⟩)
   | false =>
    (rw [hb] at H)
    obtain ⟨KQ, nx, hA, hC⟩ : ∃ K nx, spec_l27After.f K l1 a2 = some nx ∧ spec_l27Clear.f K l0_0 nx = some r := by
     (rcases fin _ _ H with h | h)
     ·(cases h.1)
     ·(exact h.2)
    (have HA := A0_ hA); (have HCL := A0_ hC); (have hb2 : ((wrap64 (a2.tdiv 6)).tmod 2 = 1) = False := eq_false (by simpa using hb)); clear fin H hA hC; (go_enter Try.func116, Try.ntmps116)
    go_wp2_with (first
     | ((with_reducible refine gate_dst (N := 3) rfl ?_); refine box_event ?hg (N := 3) ?hd (cs := #[.slice A0_0 l0_0.length c0_0]) (t := 32) ?hr ?_; (case hd => rfl); (case hg => rfl); (case hr => first | (go_simp; done) | (go_simp; rfl)); intro ga hgb_ wb_ hcb_ hbb_; have HS_ := A0_ (Sp.boxed HS.out hgb_ hcb_ hbb_); clear HS; have HS := HS_; clear HS_; clear hgb_ hcb_ hbb_; have ha0 := (blk_cell (Sp.blk HS.out (i := 0) rfl).1 0).trans rfl)
     | (go_at_call 45; refine (spec_l01In.calls a2 6 (wrap64 (ji9 - 1)) true _ HIN.out).mono ?_; rintro e wc_ ⟨rfl, hb_⟩; have HS_ := A0_ (Sp.far HS.out hb_.below); clear HS; have HS := HS_; clear HS_; clear hb_ ha0; have ha0 := (blk_cell (Sp.blk HS.out (i := 0) rfl).1 0).trans rfl))
    (have HS_ := A0_ (show Sp w ([Res.blk ga #[.slice A0_0 l0_0.length c0_0] 32] ++ ([] : List Res)) wc_.drew from Sp.drew HS.out)); clear HS ha0; (have HS := HS_); clear HS_
    refine start_ (n := 6) (S := fun w' => w'.cell? ⟨ga, 0, none⟩ = some (.slice A0_0 l0_0.length c0_0)) (ds := []) #[ff,ff,ff,ff,ff,ff] (by kernel_rfl) rfl rfl ((blk_cell (Sp.blk HS.out (i := 0) rfl).1 0).trans rfl) (fun hHeld => ?_)
    refine with_tabW possF.tab4 possF.bits4 (fun HT_ HW_ => ?_)
    (generalize wc_.drew = wD at HS hHeld ⊢); (refine tk_ 0 (some 24) ?_); (refine on_ 1 (some 25) ?_); (refine on_ 2 (some 26) ?_)
    refine o1_ 3 (some 27) (fun K hK => ?_)
    (refine goes_ Try.func104 (by kernel_rfl) rfl #[.slice A1 l1.length c1, .int .i64 a2] (by rfl) rfl rfl (by (try simp only [List.map_toArray, List.map_cons, List.map_nil]); first | done | rfl | (simp only [List.length_drop, List.length_take]; rfl)) ?_); (refine (spec_l27After.calls KQ A1 c1 l1 a2 nx _ (Kd.C_below HO.out HS.out.below) HCO.out HA.out).mono ?_); (rintro e wd_ ⟨vd_, rfl, ho_, hb_⟩); (refine ⟨_, rfl, ?_⟩); (have HS_ := A0_ (Sp.made' HS.out hb_ ho_)); clear HS; (have HS := HS_); clear HS_; (obtain ⟨Ad_, cd_, rfl⟩ := Kd.R_slice ho_); clear ho_ hb_
    refine hK.out _ _ ((blk_cell (Sp.blk HS.out (i := 1) rfl).1 0).trans rfl) (fun hHeld => ?_)
    clear hK K; (refine nm_ (some 27) ?_)
    refine o1_ 4 (some 28) (fun K hK => ?_)
    (refine goes_ Try.func70 (by kernel_rfl) rfl #[.agg #[.slice A0_0 l0_0.length c0_0], .slice Ad_ nx.length cd_] (by rfl) rfl rfl (by (try simp only [List.map_toArray, List.map_cons, List.map_nil]); first | done | rfl | (simp only [List.length_drop, List.length_take]; rfl)) ?_); (refine (spec_l27Clear.calls KQ A0_0 c0_0 l0_0 Ad_ cd_ nx r _ (Kd.C_below HP.out HS.out.below) HCP.out (Sp.reads HS.out (i := 0) rfl).2.2 (Sp.reads HS.out (i := 0) rfl).2.1 HCL.out).mono ?_); (rintro e we_ ⟨rfl, hb_⟩); (refine ⟨_, rfl, ?_⟩); (have HS_ := A0_ (Sp.far HS.out hb_)); clear HS; (have HS := HS_); clear HS_; clear hb_
    refine hK.out _ _ ((blk_cell (Sp.blk HS.out (i := 1) rfl).1 0).trans rfl) (fun hHeld => ?_)
    clear hK K; (refine nm_ (some 28) ?_); (refine on_ 5 (some 6) ?_); (refine dn_ ?_); (try go_wp2); go_ret; (exact ⟨rfl, HS.out.below⟩)
 ·(rw [if_neg c8] at h); (cases h)
end Go.Proofs.Ytlbckkagjekhnaa.A




/- The statement's search: l28Expand, walked (tools/burex.py prints its drawing regions). -/
namespace Go.Proofs.Ytlbckkagjekhnaa.A
open Go.RowKit Go.Proofs.YtlbckkagjekhnaaW.PrintWords Go.Proofs.YtlbckkagjekhnaaW.PrintLast Go.Proofs.YtlbckkagjekhnaaW.PrintMore
set_option linter.unusedVariables false
set_option linter.unusedSimpArgs false
def expF.T1 : Bool × List (List Nat × List Nat) := (true, [([], []), ([], []), ([1], [1]), ([2], [2]), ([3], [3]), ([], []), ([4, 5], [4, 5]), ([6], [6]), ([0, 7], [0, 7]), ([8, 8, 0, 1, 2, 3, 4, 5, 6, 7, 8], [8])])
def expF.B1 : List Nat := [0, 0, 2, 6, 14, 0, 62, 126, 255, 511]
theorem expF.tab1 : rtab .any (opsOf Try.f79 1) = expF.T1 := by kernel_rfl
theorem expF.bits1 : waitsOk expF.T1.2 expF.B1 = true := by kernel_rfl
def expF.T5 : Bool × List (List Nat × List Nat) := (true, [([], []), ([0], [0]), ([1], [1]), ([2], [2]), ([], []), ([3, 4], [3, 4]), ([5], [5]), ([], []), ([], []), ([7, 8], [7, 8]), ([9], [9]), ([6, 10], [6, 10]), ([11, 11, 0, 1, 2, 3, 4, 5, 6, 7, 8, 9, 10, 11], [11])])
def expF.B5 : List Nat := [0, 1, 3, 7, 0, 31, 63, 0, 0, 384, 896, 2047, 4095]
theorem expF.tab5 : rtab .any (opsOf Try.f79 5) = expF.T5 := by kernel_rfl
theorem expF.bits5 : waitsOk expF.T5.2 expF.B5 = true := by kernel_rfl
end Go.Proofs.Ytlbckkagjekhnaa.A

/- Parts that leave, and the searches of positions with the ways to them, in plain words. No program in sight. -/
namespace Go.Proofs.Ytlbckkagjekhnaa.A
open Go.RowKit Go.Proofs.YtlbckkagjekhnaaW.PrintWords Go.Proofs.YtlbckkagjekhnaaW.PrintLast Go.Proofs.YtlbckkagjekhnaaW.PrintMore
set_option linter.unusedVariables false
set_option linter.unusedSimpArgs false
def stepO (o d : Cb) : Nat → Cb
  | 0 => o
  | n + 1 => addC (stepO o d n) d
/-- The part leaves in the direction. -/
def leavesP (parts : List (List Cb)) (offs : List Cb) (p d : Int) : Bool := (List.range 40).all fun j => aloneP parts offs p (stepO (oAt offs p.toNat) (vecP d) (j + 1))
end Go.Proofs.Ytlbckkagjekhnaa.A

/- Steps of a part that leaves, in plain words. No program in sight. -/
namespace Go.Proofs.Ytlbckkagjekhnaa.A
open Go.RowKit Go.Proofs.YtlbckkagjekhnaaW.PrintWords Go.Proofs.YtlbckkagjekhnaaW.PrintLast Go.Proofs.YtlbckkagjekhnaaW.PrintMore
set_option linter.unusedVariables false
set_option linter.unusedSimpArgs false
theorem wrap_assoc (a b c : Int) : wrap64 (wrap64 (a + b) + c) = wrap64 (a + wrap64 (b + c)) := by unfold wrap64; omega
theorem addC_assoc (a b c : Cb) : addC (addC a b) c = addC a (addC b c) := by
  unfold addC
  dsimp only
  rw [wrap_assoc, wrap_assoc, wrap_assoc]
theorem vec_small (d : Int) (hd : 0 ≤ d ∧ d < 6) : inCb (vecP d) (-1) 1 = true := by
  obtain h | h | h | h | h | h : d = 0 ∨ d = 1 ∨ d = 2 ∨ d = 3 ∨ d = 4 ∨ d = 5 := by omega
  all_goals subst h; rfl
theorem step_small (o v : Cb) (ho : inCb o (-12) 12 = true) (hv : inCb v (-1) 1 = true) : ∀ n : Nat, n ≤ 40 → inCb (stepO o v n) (-(12 + (n : Int))) (12 + (n : Int)) = true
  | 0, _ => by simpa [stepO] using ho
  | n + 1, hn => by
    have ih := step_small o v ho hv n (by omega)
    have h1 := inCb_mono ih (show (-200 : Int) ≤ -(12 + (n : Int)) by omega) (show 12 + (n : Int) ≤ 200 by omega)
    have h2 := inCb_mono hv (show (-200 : Int) ≤ -1 by omega) (show (1 : Int) ≤ 200 by omega)
    show inCb (addC (stepO o v n) v) _ _ = true
    rw [addC_small h1 h2]
    rw [inCb_iff] at ih hv ⊢
    dsimp only
    omega
/-- All that Leaves needs of its arguments. -/
def LvOk (parts : List (List Cb)) (offs : List Cb) (p d : Int) : Prop := (offs.length = parts.length ∧ parts.length ≤ 8) ∧ (∀ q ∈ parts, q.length ≤ 1048576) ∧ (∀ q ∈ parts, ∀ c ∈ q, inCb c 0 7 = true) ∧ (∀ c ∈ offs, inCb c (-12) 12 = true) ∧ (0 ≤ p ∧ p < (parts.length : Int)) ∧ 0 ≤ d ∧ d < 6
instance decLvOk (parts : List (List Cb)) (offs : List Cb) (p d : Int) : Decidable (LvOk parts offs p d) := by unfold LvOk; exact inferInstance
theorem move_step (P : List Cb) (o v : Cb) (j : Nat) : ((P.map fun c => addC c (stepO o v j)).map fun c => addC c v) = P.map fun c => addC c (stepO o v (j + 1)) := by
  rw [List.map_map]
  exact List.map_congr_left fun c _ => addC_assoc c (stepO o v j) v
theorem oAt_mem (offs : List Cb) (j : Nat) (hj : j < offs.length) : oAt offs j ∈ offs := by
  have e : oAt offs j = offs[j] := by simp [oAt, List.getD_eq_getElem?_getD, hj]
  rw [e]
  exact List.getElem_mem hj
/-- The moved part meets another one as the program asks it. -/
theorem leave_pair (parts : List (List Cb)) (offs : List Cb) (p i : Nat) (hp : p < parts.length) (hi : i < parts.length) (hl : offs.length = parts.length) (hc : ∀ q ∈ parts, ∀ c ∈ q, inCb c 0 7 = true) (ho : ∀ c ∈ offs, inCb c (-12) 12 = true) (v : Cb) (hv : inCb v (-1) 1 = true) (j : Nat) (hj : j ≤ 40) :
    (((partAt parts (p : Int)).map fun c => addC c (stepO (oAt offs p) v j)).any fun c => ((partAt parts (i : Int)).map fun c => addC c (oAt offs i)).contains c) = touchP parts i p (subC (stepO (oAt offs p) v j) (oAt offs i)) := by
  have hm : ∀ i : Nat, i < parts.length → partAt parts (i : Int) ∈ parts := fun i hi => by
    have : partAt parts (i : Int) = parts[i] := by unfold partAt; simp [hi]
    rw [this]; exact List.getElem_mem _
  exact pair_wide _ _ _ _ (hc _ (hm p hp)) (hc _ (hm i hi)) (inCb_mono (step_small _ v (ho _ (oAt_mem offs p (by omega))) hv j hj) (by omega) (by omega)) (inCb_mono (ho _ (oAt_mem offs i (by omega))) (by omega) (by omega))
end Go.Proofs.Ytlbckkagjekhnaa.A

/- HAND spec.l27Leaves (spec.l27Leaves) walked over separate resources; it stands in the place of a printed text. -/
namespace Go.Proofs.Ytlbckkagjekhnaa.A
open Go.RowKit Go.Proofs.YtlbckkagjekhnaaW.PrintWords Go.Proofs.YtlbckkagjekhnaaW.PrintLast Go.Proofs.YtlbckkagjekhnaaW.PrintMore
set_option linter.unusedVariables false
set_option linter.unusedSimpArgs false
def spec_l27Leaves.f (k : Nat) (l : List (List Cb)) (offs : List Cb) (p d : Int) : Option Bool := if LvOk l offs p d then some (leavesP l offs p d) else none
theorem move_at' (l : List Cb) (d : Cb) (h : l.length ≤ 1048576) : ∃ K m, m = (l.map fun c => addC c d) ∧ m.length = l.length ∧ spec_l09Move.f K l d.f0 d.f1 d.f2 = some m := by
 (obtain ⟨K, hK⟩ := (smove_ev l d h).rounds); (exact ⟨K, _, rfl, List.length_map _, hK⟩)
def slvF.T1 : Bool × List (List Nat × List Nat) := (true, [([], []), ([0], [0]), ([], []), ([1, 2], [1, 2]), ([3], [3]), ([], []), ([], []), ([5, 6], [5, 6]), ([7], [7]), ([4, 8], [4, 8]), ([9, 9, 0, 1, 2, 3, 4, 5, 6, 7, 8, 9], [9])])
def slvF.B1 : List Nat := [0, 1, 0, 7, 15, 0, 0, 96, 224, 511, 1023]
theorem slvF.tab1 : rtab .any (opsOf Try.f91 1) = slvF.T1 := by kernel_rfl
theorem slvF.bits1 : waitsOk slvF.T1.2 slvF.B1 = true := by kernel_rfl
def slvF.T9 : Bool × List (List Nat × List Nat) := (true, [([], []), ([], []), ([0, 1], [0, 1]), ([2], [2]), ([3], [3]), ([3], [3]), ([5, 3], [3, 5]), ([3], [3]), ([6, 7, 3], [3, 6, 7]), ([8, 3], [3, 8]), ([3], [3]), ([3], [3]), ([10, 11, 3], [3, 10, 11]), ([12, 3], [3, 12]), ([9, 13, 3, 3], [3, 9, 13]), ([4, 14, 14, 3], [3, 4, 14]), ([3, 15], [3, 15])])
def slvF.B9 : List Nat := [0, 0, 3, 7, 15, 15, 47, 15, 239, 495, 15, 15, 3087, 7183, 16367, 32767, 65535]
theorem slvF.tab9 : rtab .any (opsOf Try.f91 9) = slvF.T9 := by kernel_rfl
theorem slvF.bits9 : waitsOk slvF.T9.2 slvF.B9 = true := by kernel_rfl
set_option maxHeartbeats 4000000 in
set_option maxRecDepth 100000 in
theorem spec_l27Leaves.calls (k : Nat) (A0_0 : Option Addr) (c0_0 : Nat) (l0_0 : List (List Cb)) (A1 : Option Addr) (c1 : Nat) (l1 : List Cb) (a2 a3 : Int) (r : Bool) (w : World) (hr0_0 : Kd.C (Kd.slice 69 k69) w A0_0 l0_0.length l0_0) (hc0_0 : l0_0.length ≤ c0_0) (hr1 : Kd.C k69 w A1 l1.length l1) (hc1 : l1.length ≤ c1) (h : spec_l27Leaves.f k l0_0 l1 a2 a3 = some r) :
    Calls Try.prog 91 #[.agg #[.slice A0_0 l0_0.length c0_0], .slice A1 l1.length c1, .int .i64 a2, .int .i64 a3] w fun e w' => e = .returned (.bool r) ∧ Below w.heap.size w w' := by
 (have hu32 := Try.underlying32); (have hu69 := Try.underlying69); (unfold spec_l27Leaves.f at h); (split at h)
 case isFalse => cases h
 (rename_i hz); (obtain ⟨⟨hl, h8⟩, hsz, hcb, hob, ⟨hp0, hp1⟩, hd⟩ := hz); (obtain ⟨p, rfl⟩ : ∃ p : Nat, a2 = (p : Int) := ⟨a2.toNat, by omega⟩); (have hpl : p < l0_0.length := by omega); (obtain rfl := Option.some.inj h); (have HR0 := A0_ hr0_0); (have HR1 := A0_ hr1); (have HLN := A0_ hl); (have H8 := A0_ h8); (have HSZ := A0_ hsz); (have HP := A0_ hpl); (have HS := A0_ (Sp.start w)); (have HVE := A0_ (vec_eq a3 hd))
 have hlp0 := fun (v : Cb) (hv : inCb v (-1) 1 = true) (i : Nat) (hi : i < l0_0.length) (j : Nat) (hj : j ≤ 40) => leave_pair l0_0 l1 p i hpl hi hl hcb hob v hv j hj
 (have hvs := vec_small a3 hd)
 have hle : leavesP l0_0 l1 p a3 = (List.range 40).all fun j => aloneP l0_0 l1 p (stepO (oAt l1 p) (vecP a3) (j + 1)) := rfl
 (have hplen := hsz _ (pAt_mem l0_0 p hpl)); (have q0 : (0 ≤ (p : Int)) = True := eq_true (by omega)); (have q1 : ((p : Int) < (l0_0.length : Int)) = True := eq_true (by omega)); (have q2 : (p < l0_0.length) = True := eq_true hpl); (have q3 : ((p : Int) < (l1.length : Int)) = True := eq_true (by omega)); (have q4 : (p < l1.length) = True := eq_true (by omega)); (obtain ⟨adp, Ai, ci_, e, hy0, hy1, hy2⟩ := at_L4 hr0_0 (p : Int) (by omega) (by omega)); subst e; (rw [show rd_L4 l0_0 (p : Int) = pAt l0_0 p from rfl] at hy0 hy1 hy2); (rw [Int.toNat_natCast] at hy0); (obtain ⟨ado, e, hx0, hx1, hx2⟩ := at_T69 hr1 (p : Int) (by omega) (by omega)); subst e; (rw [show rd_T69 l1 (p : Int) = oAt l1 p from rfl] at hx0 hx1 hx2); (rw [Int.toNat_natCast] at hx0 hx1 hx2); (obtain ⟨v, hv⟩ : ∃ v, v = vecP a3 := ⟨_, rfl⟩); (rw [← hv] at hvs hle HVE); (have hlp := hlp0 v hvs); clear hlp0; (obtain ⟨P, hP⟩ : ∃ P, P = pAt l0_0 p := ⟨_, rfl⟩)
 change ∀ i, i < l0_0.length → ∀ j, j ≤ 40 → (((pAt l0_0 p).map fun c => addC c (stepO (oAt l1 p) v j)).any fun c => ((pAt l0_0 i).map fun c => addC c (oAt l1 i)).contains c) = touchP l0_0 i p (subC (stepO (oAt l1 p) v j) (oAt l1 i)) at hlp
 (rw [← hP] at hlp hy0 hy1 hy2 hplen); (obtain ⟨o, ho⟩ : ∃ o, o = oAt l1 p := ⟨_, rfl⟩); (rw [← ho] at hlp hle hx0 hx1 hx2); (obtain ⟨R, hR⟩ : ∃ R, R = leavesP l0_0 l1 p a3 := ⟨_, rfl⟩); (rw [← hR] at hle ⊢); (have HLP := A0_ hlp); (have HLE := A0_ hle); (have HPL := A0_ hplen); (have HP0 := A0_ hy0); (have HP1 := A0_ hy1); (have HP2 := A0_ hy2); (have HO0 := A0_ hx0); (have HO1 := A0_ hx1); (have HO2 := A0_ hx2); (obtain ⟨K0, m0, hm0, hl0, hK0⟩ := move_at' P o hplen); (have HK0 := A0_ hK0); (have HM0 := A0_ hm0); clear hr0_0 hr1 hl h8 hsz hcb hob hp0 hp1 hd hpl h hlp hvs hle hplen hv hP ho hR hx0 hx1 hx2 hy0 hy1 hy2 hK0 hm0 hl0; (go_enter Try.func91, Try.ntmps91)
 go_wp2_with (first
  | ((with_reducible refine gate_dst (N := 4) rfl ?_); refine box_event ?hg (N := 4) ?hd (cs := #[.slice (some adp) l0_0.length c0_0]) (t := 32) ?hr ?_; (case hd => rfl); (case hg => rfl); (case hr => first | (go_simp; done) | (go_simp; rfl)); intro ga hgb_ wb_ hcb_ hbb_; have HS_ := A0_ (Sp.boxed HS.out hgb_ hcb_ hbb_); clear HS; have HS := HS_; clear HS_; clear hgb_ hcb_ hbb_))
 (have HS_ := A0_ (show Sp w ([Res.blk ga #[.slice (some adp) l0_0.length c0_0] 32] ++ ([] : List Res)) wb_.drew from Sp.drew HS.out)); clear HS; (have HS := HS_); clear HS_
 refine start_ (n := 11) (S := fun w' => w'.cell? ⟨ga, 0, none⟩ = some (.slice (some adp) l0_0.length c0_0) ∧ w'.cell? (adp.add p) = some (.slice Ai P.length ci_) ∧ w'.cell? (ado.add (p * 3)) = some (.int .i64 o.f0) ∧ w'.cell? ⟨(ado.add (p * 3)).block, (ado.add (p * 3)).off + 1, none⟩ = some (.int .i64 o.f1) ∧ w'.cell? ⟨(ado.add (p * 3)).block, (ado.add (p * 3)).off + 2, none⟩ = some (.int .i64 o.f2)) (ds := []) #[ff,ff,ff,ff,ff,ff,ff,ff,ff,ff,ff] (by kernel_rfl) rfl rfl (⟨(blk_cell (Sp.blk HS.out (i := 0) rfl).1 0).trans rfl, pw_cell_below HS.out.below HP0.out, pw_cell_below HS.out.below HO0.out, pw_cell_below HS.out.below HO1.out, pw_cell_below HS.out.below HO2.out⟩) (fun hHeld => ?_)
 refine with_tabW slvF.tab1 slvF.bits1 (fun HT_ HW_ => ?_)
 (generalize wb_.drew = wD at HS hHeld ⊢); (refine on_ 0 (some 12) ?_); (refine tk_ 1 (some 13) ?_); (refine on_ 2 (some 14) ?_); (refine on_ 3 (some 15) ?_); (refine tk_ 4 (some 16) ?_); (refine on_ 5 (some 17) ?_); (refine on_ 6 (some 18) ?_); (refine on_ 7 (some 19) ?_); (refine tk_ 8 (some 20) ?_)
 refine o1_ 9 (some 21) (fun K hK => ?_)
 (refine goes_ Try.func71 (by kernel_rfl) rfl #[.slice Ai P.length ci_, .agg #[.int .i64 o.f0, .int .i64 o.f1, .int .i64 o.f2]] (by rfl) rfl rfl (by (try simp only [List.map_toArray, List.map_cons, List.map_nil]); first | done | rfl | (simp only [List.length_drop, List.length_take]; rfl)) ?_); (refine (spec_l09Move.calls K0 Ai ci_ P o.f0 o.f1 o.f2 m0 _ (Kd.C_below HP2.out HS.out.below) HP1.out HK0.out).mono ?_); (rintro e wA11 ⟨vA11, rfl, ho, hb⟩); (refine ⟨_, rfl, ?_⟩); (have HS_ := A0_ (Sp.made' HS.out hb ho)); clear HS; (have HS := HS_); clear HS_; clear hb ho; (obtain ⟨AA11, cA11, rfl⟩ := Sp.slice HS.out (i := 0) rfl)
 refine hK.out _ _ (⟨(blk_cell (Sp.blk HS.out (i := 1) rfl).1 0).trans rfl, pw_cell_below HS.out.below HP0.out, pw_cell_below HS.out.below HO0.out, pw_cell_below HS.out.below HO1.out, pw_cell_below HS.out.below HO2.out⟩) (fun hHeld => ?_)
 clear hK K; (refine nm_ (some 21) ?_); (refine on_ 10 (some 9) ?_); (refine dn_ ?_); go_wp2
 go_loopg [9, 10] 41 (fun kq v9 v10 w' => ∃ (j : Nat) (M : List Cb) (Am : Option Addr) (cm : Nat), v10 = .int .i64 (j : Int) ∧ v9 = .slice Am M.length cm ∧ Aside0 (j ≤ 40 ∧ kq + j = 41 ∧ M = (P.map fun c => addC c (stepO o v j)) ∧ (List.range j).all (fun j => aloneP l0_0 l1 p (stepO o v (j + 1))) = true) ∧ Aside0 (Sp w [Res.row k69 69 w.heap.size (.slice Am M.length cm) M, Res.blk ga #[.slice (some adp) l0_0.length c0_0] 32] w'))
 case atStart => exact ⟨0, m0, AA11, cA11, rfl, rfl, ⟨by omega, by omega, HM0.out, rfl⟩, HS⟩
 case round =>
  clear HS; (obtain ⟨j, M0, Am0, cm0, rfl, rfl, HX, HS⟩ := hrel); (obtain ⟨k1, rfl⟩ : ∃ k1, gk = k1 + 1 := ⟨gk - 1, by have := HX.out; omega⟩); (by_cases cj : j < 40)
  ·(have cj0 : decide (j < 40) = true := decide_eq_true cj); (have cj1 : (j < 40) = True := eq_true cj); (have cj2 : decide ((j : Int) < 40) = true := decide_eq_true (by omega)); (have cj3 : ((j : Int) < 40) = True := eq_true (by omega)); (have HW := A0_ (wrap_succ j (by omega)))
   have HNX := A0_ (range_next (fun j => aloneP l0_0 l1 p (stepO o v (j + 1))) j HX.out.2.2.2)
   have HNO := A0_ (fun h => HLE.out.trans (range_no (fun j => aloneP l0_0 l1 p (stepO o v (j + 1))) 40 j cj h))
   have HLJ := A0_ (fun i hi => HLP.out i hi (j + 1) (by omega))
   (obtain ⟨x, hx⟩ : ∃ x, x = stepO o v (j + 1) := ⟨_, rfl⟩); (obtain ⟨K1, M, hM, hl1, hK1⟩ := move_at' M0 v (by rw [HX.out.2.2.1, List.length_map]; exact HPL.out))
   have hM2 : M = P.map fun c => addC c (stepO o v (j + 1)) := by rw [hM, HX.out.2.2.1, move_step]
   (have HML := A0_ (show M.length ≤ 1048576 by rw [hM2, List.length_map]; exact HPL.out)); (rw [← hM2] at HLJ); (have HM2 := A0_ hM2); (rw [← hx] at HLJ); (have hnx := HNX.out); (have hno := HNO.out); (try dsimp only at hnx hno); (rw [← hx] at hnx hno); (have HNX := A0_ hnx); (have HNO := A0_ hno)
   have hal : aloneP l0_0 l1 p x = (List.range l1.length).all fun k => decide ((k : Int) = (p : Int)) || !touchP l0_0 k p (subC x (oAt l1 k)) := rfl
   (have HAL := A0_ hal); (have HK1 := A0_ hK1); (have HCJ := A0_ cj); clear cj hx hM hl1 hK1 hM2 hnx hno hal
   go_wp2_with (first
    | (go_at_call 117; refine (spec_l27Vector.calls a3 v.f0 v.f1 v.f2 _ HVE.out).mono ?_; rintro e wc_ ⟨rfl, hb_⟩; have HS_ := A0_ (Sp.far HS.out hb_); clear HS; have HS := HS_; clear HS_; clear hb_)
    | (go_at_call 71; refine (spec_l09Move.calls K1 Am0 cm0 M0 v.f0 v.f1 v.f2 M _ (Sp.reads HS.out (i := 0) rfl).2.2 (Sp.reads HS.out (i := 0) rfl).2.1 HK1.out).mono ?_; rintro e wc_ ⟨v_, rfl, ho_, hb_⟩; have HS_ := A0_ (Sp.out (Sp.made' HS.out hb_ ho_) 1); clear HS; have HS := HS_; clear HS_; obtain ⟨Am, cm, rfl⟩ := Kd.R_slice ho_; clear hb_ ho_))
   go_loopg [11] (l1.length + 1) (fun kq v11 w' => ∃ (i : Nat), v11 = .int .i64 (i : Int) ∧ Aside0 (i ≤ l1.length ∧ kq + i = l1.length + 1 ∧ (List.range i).all (fun k => decide ((k : Int) = (p : Int)) || !touchP l0_0 k p (subC x (oAt l1 k))) = true) ∧ Aside0 (Sp w [Res.row k69 69 w.heap.size (.slice Am M.length cm) M, Res.blk ga #[.slice (some adp) l0_0.length c0_0] 32] w'))
   case atStart => exact ⟨0, rfl, ⟨by omega, by omega, rfl⟩, HS⟩
   case round =>
    clear HS; (obtain ⟨i, rfl, HY, HS⟩ := hrel); (obtain ⟨k2, rfl⟩ : ∃ k2, gk = k2 + 1 := ⟨gk - 1, by have := HY.out; omega⟩); (by_cases ci : i < l1.length)
    ·(have ci0 : decide (i < l1.length) = true := decide_eq_true ci); (have ci1 : (i < l1.length) = True := eq_true ci); (have r0 : (0 ≤ (i : Int)) = True := eq_true (by omega)); (have r1 : ((i : Int) < (l0_0.length : Int)) = True := eq_true (by have := HLN.out; omega)); (have r2 : (i < l0_0.length) = True := eq_true (by have := HLN.out; omega)); (have r3 : ((i : Int) < (l1.length : Int)) = True := eq_true (by omega)); (have HWI := A0_ (wrap_succ i (by have := H8.out; have := HLN.out; omega)))
     have HNJ := A0_ (range_next (fun k : Nat => decide ((k : Int) = (p : Int)) || !touchP l0_0 k p (subC x (oAt l1 k))) i HY.out.2.2)
     have HBJ := A0_ (fun h => HAL.out.trans (range_no (fun k : Nat => decide ((k : Int) = (p : Int)) || !touchP l0_0 k p (subC x (oAt l1 k))) l1.length i ci h))
     (have HCI := A0_ ci); (have HS_ := A0_ (show Sp w ([Res.row k69 69 w.heap.size (.slice Am M.length cm) M, Res.blk ga #[.slice (some adp) l0_0.length c0_0] 32] ++ ([] : List Res)) wr.drew from Sp.drew HS.out)); clear HS; (have HS := HS_); clear HS_; (by_cases hip : (i : Int) = (p : Int))
     ·(have s0 : ((i : Int) != (p : Int)) = false := by rw [bne_eq_false_iff_eq]; exact hip); (have HN := A0_ (HNJ.out (by rw [decide_eq_true hip, Bool.true_or]))); clear ci hip HNJ HBJ; go_wp2
      refine start_ (n := 17) (S := fun w' => True) (ds := []) #[ff,ff,ff,ff,ff,ff,ff,ff,ff,ff,ff,ff,ff,ff,ff,ff,ff] (by kernel_rfl) rfl rfl (trivial) (fun hHeld => ?_)
      refine with_tabW slvF.tab9 slvF.bits9 (fun HT_ HW_ => ?_)
      (generalize wr.drew = wD at HS hHeld ⊢); (refine on_ 0 (some 36) ?_); (refine on_ 1 (some 37) ?_); (refine on_ 2 (some 38) ?_); (refine on_ 3 (some 39) ?_); (refine of_ 4 (some 40) ?_); (refine of_ 5 (some 41) ?_); (refine of_ 6 (some 42) ?_); (refine of_ 7 (some 43) ?_); (refine of_ 8 (some 44) ?_); (refine of_ 9 (some 45) ?_); (refine of_ 10 (some 46) ?_); (refine of_ 11 (some 47) ?_); (refine of_ 12 (some 48) ?_); (refine of_ 13 (some 49) ?_); (refine of_ 14 (some 50) ?_); (refine of_ 15 (some 51) ?_); (refine on_ 16 (some 52) ?_); (refine dn_ ?_); go_wp2; (go_roundg k2)
      case measure => omega
      case rel =>
       (rw [HWI.out]); (exact ⟨i + 1, rfl, ⟨by have := HCI.out; omega, by have := HY.out; omega, HN.out⟩, HS⟩)
     ·(have s0 : ((i : Int) != (p : Int)) = true := by rw [bne_iff_ne]; exact hip); (have hnj := HNJ.out); (have hbj := HBJ.out); (try dsimp only at hnj hbj); (rw [decide_eq_false hip, Bool.false_or] at hnj hbj); (have hil : i < l0_0.length := by have := HLN.out; omega); (obtain ⟨ad3, Aj, cj_, e, hy0, hy1, hy2⟩ := at_L4 HR0.out (i : Int) (by omega) (by omega)); (injection e with e); subst e; (have hpl := HSZ.out _ (pAt_mem l0_0 i hil)); (have hpr := HLJ.out i hil); (rw [show rd_L4 l0_0 (i : Int) = pAt l0_0 i from rfl] at hy0 hy1 hy2); (rw [Int.toNat_natCast] at hy0); (obtain ⟨ad4, e, hx0, hx1, hx2⟩ := at_T69 HR1.out (i : Int) (by omega) (by omega)); (injection e with e); subst e; (rw [show rd_T69 l1 (i : Int) = oAt l1 i from rfl] at hx0 hx1 hx2); (rw [Int.toNat_natCast] at hx0 hx1 hx2); (obtain ⟨pj, hpj⟩ : ∃ pj, pj = pAt l0_0 i := ⟨_, rfl⟩); (rw [← hpj] at hy0 hy1 hy2 hpl hpr); (obtain ⟨oj, hoj⟩ : ∃ oj, oj = oAt l1 i := ⟨_, rfl⟩); (rw [← hoj] at hx0 hx1 hx2 hpr hnj hbj); (obtain ⟨K2, m2, hm2, hl2, hK2⟩ := move_at' pj oj hpl); (obtain ⟨K3, hK3⟩ := (smeet_ev M m2 HML.out (by rw [hl2]; exact hpl)).rounds); (rw [← hm2] at hpr); (rw [hpr] at hK3); (obtain ⟨r3, hr3⟩ : ∃ r3, r3 = touchP l0_0 (i : Int) (p : Int) (subC x oj) := ⟨_, rfl⟩); (rw [← hr3] at hK3 hnj hbj); (have HNJ := A0_ hnj); (have HBJ := A0_ hbj); (have HK2 := A0_ hK2); (have HK3 := A0_ hK3); (have HJ0 := A0_ hy0); (have HJ1 := A0_ hy1); (have HJ2 := A0_ hy2); (have HX0 := A0_ hx0); (have HX1 := A0_ hx1); (have HX2 := A0_ hx2); clear ci hip hpj hoj hx0 hx1 hx2 hy0 hy1 hy2 hK2 hK3 hm2 hl2 hpl hpr hr3 hil hnj hbj; go_wp2
      refine start_ (n := 17) (S := fun w' => w'.cell? ⟨ga, 0, none⟩ = some (.slice (some adp) l0_0.length c0_0) ∧ w'.cell? (adp.add i) = some (.slice Aj pj.length cj_) ∧ w'.cell? (ado.add (i * 3)) = some (.int .i64 oj.f0) ∧ w'.cell? ⟨(ado.add (i * 3)).block, (ado.add (i * 3)).off + 1, none⟩ = some (.int .i64 oj.f1) ∧ w'.cell? ⟨(ado.add (i * 3)).block, (ado.add (i * 3)).off + 2, none⟩ = some (.int .i64 oj.f2)) (ds := []) #[ff,ff,ff,ff,ff,ff,ff,ff,ff,ff,ff,ff,ff,ff,ff,ff,ff] (by kernel_rfl) rfl rfl (⟨(blk_cell (Sp.blk HS.out (i := 1) rfl).1 0).trans rfl, pw_cell_below HS.out.below HJ0.out, pw_cell_below HS.out.below HX0.out, pw_cell_below HS.out.below HX1.out, pw_cell_below HS.out.below HX2.out⟩) (fun hHeld => ?_)
      refine with_tabW slvF.tab9 slvF.bits9 (fun HT_ HW_ => ?_)
      (generalize wr.drew = wD at HS hHeld ⊢); (refine on_ 0 (some 36) ?_); (refine on_ 1 (some 37) ?_); (refine on_ 2 (some 38) ?_); (refine on_ 3 (some 39) ?_); (refine on_ 4 (some 40) ?_); (refine on_ 5 (some 41) ?_); (refine tk_ 6 (some 42) ?_); (refine on_ 7 (some 43) ?_); (refine on_ 8 (some 44) ?_); (refine tk_ 9 (some 45) ?_); (refine on_ 10 (some 46) ?_); (refine on_ 11 (some 47) ?_); (refine on_ 12 (some 48) ?_); (refine tk_ 13 (some 49) ?_)
      refine o1_ 14 (some 50) (fun K hK => ?_)
      (refine goes_ Try.func71 (by kernel_rfl) rfl #[.slice Aj pj.length cj_, .agg #[.int .i64 oj.f0, .int .i64 oj.f1, .int .i64 oj.f2]] (by rfl) rfl rfl (by (try simp only [List.map_toArray, List.map_cons, List.map_nil]); first | done | rfl | (simp only [List.length_drop, List.length_take]; rfl)) ?_); (refine (spec_l09Move.calls K2 Aj cj_ pj oj.f0 oj.f1 oj.f2 m2 _ (Kd.C_below HJ2.out HS.out.below) HJ1.out HK2.out).mono ?_); (rintro e wA11 ⟨vA11, rfl, ho, hb⟩); (refine ⟨_, rfl, ?_⟩); (have HS_ := A0_ (Sp.made' HS.out hb ho)); clear HS; (have HS := HS_); clear HS_; clear hb ho; (obtain ⟨AA11, cA11, rfl⟩ := Sp.slice HS.out (i := 0) rfl)
      refine hK.out _ _ (⟨(blk_cell (Sp.blk HS.out (i := 2) rfl).1 0).trans rfl, pw_cell_below HS.out.below HJ0.out, pw_cell_below HS.out.below HX0.out, pw_cell_below HS.out.below HX1.out, pw_cell_below HS.out.below HX2.out⟩) (fun hHeld => ?_)
      clear hK K; (refine nm_ (some 50) ?_)
      refine o1_ 15 (some 51) (fun K hK => ?_)
      (refine goes_ Try.func78 (by kernel_rfl) rfl #[.slice Am M.length cm, .slice AA11 (m2).length cA11] (by rfl) rfl rfl (by (try simp only [List.map_toArray, List.map_cons, List.map_nil]); first | done | rfl | (simp only [List.length_drop, List.length_take]; rfl)) ?_); (refine (spec_l27Meet.calls K3 Am cm M AA11 cA11 m2 r3 _ (Sp.reads HS.out (i := 1) rfl).2.2 (Sp.reads HS.out (i := 1) rfl).2.1 (Sp.reads HS.out (i := 0) rfl).2.2 (Sp.reads HS.out (i := 0) rfl).2.1 HK3.out).mono ?_); (rintro e wA12 ⟨rfl, hb⟩); (refine ⟨_, rfl, ?_⟩); (have HS_ := A0_ (Sp.far HS.out hb)); clear HS; (have HS := HS_); clear HS_; clear hb
      refine hK.out _ _ (⟨(blk_cell (Sp.blk HS.out (i := 2) rfl).1 0).trans rfl, pw_cell_below HS.out.below HJ0.out, pw_cell_below HS.out.below HX0.out, pw_cell_below HS.out.below HX1.out, pw_cell_below HS.out.below HX2.out⟩) (fun hHeld => ?_)
      clear hK K; (refine nm_ (some 51) ?_); (refine on_ 16 (some 52) ?_); (refine dn_ ?_); (have HS_ := A0_ (Sp.arr (pre := [Res.row k69 69 w.heap.size (.slice AA11 (m2).length cA11) (m2), Res.row k69 69 w.heap.size (.slice Am M.length cm) M, Res.blk ga #[.slice (some adp) l0_0.length c0_0] 32]) (pre' := [Res.row k69 69 w.heap.size (.slice Am M.length cm) M, Res.blk ga #[.slice (some adp) l0_0.length c0_0] 32, Res.row k69 69 w.heap.size (.slice AA11 (m2).length cA11) (m2)]) (rest := ([] : List Res)) [1, 2, 0] HS.out rfl rfl)); clear HS; (have HS := HS_); clear HS_
      cases r3 with
      | true =>
       (have HF := A0_ (HNO.out (HBJ.out rfl))); clear HNJ HBJ; go_wp2; go_ret; (exact ⟨by rw [HF.out]; rfl, HS.out.below⟩)
      | false =>
       (have HN := A0_ (HNJ.out rfl)); clear HNJ HBJ; go_wp2; (have HS_ := A0_ (Sp.out HS.out 2)); clear HS; (have HS := HS_); clear HS_; (go_roundg k2)
       case measure => omega
       case rel =>
        (rw [HWI.out]); (exact ⟨i + 1, rfl, ⟨by have := HCI.out; omega, by have := HY.out; omega, HN.out⟩, HS⟩)
    ·(have ci0 : decide (i < l1.length) = false := decide_eq_false ci); (have ci1 : (i < l1.length) = False := eq_false ci); (have ci3 : ((i : Int) < (l1.length : Int)) = False := eq_false (by omega)); (have hi : i = l1.length := by have := HY.out; omega); (have HN := A0_ (HNX.out (HAL.out.trans (hi ▸ HY.out.2.2)))); clear ci hi; go_wp2; (go_roundg k1)
     case measure => omega
     case rel =>
      (rw [HW.out]); (exact ⟨j + 1, M, Am, cm, rfl, rfl, ⟨by have := HCJ.out; omega, by have := HX.out; omega, HM2.out, HN.out⟩, HS⟩)
  ·(have cj0 : decide (j < 40) = false := decide_eq_false cj); (have cj1 : (j < 40) = False := eq_false cj); (have cj2 : decide ((j : Int) < 40) = false := decide_eq_false (by omega)); (have cj3 : ((j : Int) < 40) = False := eq_false (by omega)); (have hj : j = 40 := by have := HX.out; omega); (have HF := A0_ (HLE.out.trans (hj ▸ HX.out.2.2.2))); clear cj hj; go_wp2; go_ret; (exact ⟨by rw [HF.out]; rfl, HS.out.below⟩)
end Go.Proofs.Ytlbckkagjekhnaa.A


/- The statement's search: l28Search, walked (with and without a look at exits). -/
namespace Go.Proofs.Ytlbckkagjekhnaa.A
open Go.RowKit Go.Proofs.YtlbckkagjekhnaaW.PrintWords Go.Proofs.YtlbckkagjekhnaaW.PrintLast Go.Proofs.YtlbckkagjekhnaaW.PrintMore
set_option linter.unusedVariables false
set_option linter.unusedSimpArgs false
def seaF.T5 : Bool × List (List Nat × List Nat) := (true, [([], []), ([0], [0]), ([1], [1]), ([1], [1]), ([3, 1], [1, 3]), ([4, 1], [1, 4]), ([5, 1], [1, 5]), ([1], [1]), ([6, 7, 1], [1, 6, 7]), ([8, 1], [1, 8]), ([2, 9, 1, 1], [1, 2, 9]), ([10, 1], [1, 10]), ([11, 1], [1, 11]), ([1, 12], [1, 12])])
def seaF.B5 : List Nat := [0, 1, 3, 3, 11, 27, 59, 3, 251, 507, 1023, 2047, 4095, 8191]
theorem seaF.tab5 : rtab .any (opsOf Try.f55 5) = seaF.T5 := by kernel_rfl
theorem seaF.bits5 : waitsOk seaF.T5.2 seaF.B5 = true := by kernel_rfl
end Go.Proofs.Ytlbckkagjekhnaa.A


/- What the statement's small functions answer on positions. No program in sight. -/
namespace Go.Proofs.Ytlbckkagjekhnaa.A
open Go.RowKit Go.Proofs.YtlbckkagjekhnaaW.PrintWords Go.Proofs.YtlbckkagjekhnaaW.PrintLast Go.Proofs.YtlbckkagjekhnaaW.PrintMore
set_option linter.unusedVariables false
set_option linter.unusedSimpArgs false
theorem u64_nn (k : Nat) (h : k ≤ 8) : 0 ≤ IntKind.u64.wrap (k : Int) := by
  obtain h | h | h | h | h | h | h | h | h : k = 0 ∨ k = 1 ∨ k = 2 ∨ k = 3 ∨ k = 4 ∨ k = 5 ∨ k = 6 ∨ k = 7 ∨ k = 8 := by omega
  all_goals subst h; decide
theorem movedP_at (o : List Cb) (m : Int) (j : Nat) (hj : j < o.length) : (movedP o m)[j]'(by rw [movedP_len]; exact hj) = if (m.toNat / 6).testBit j = true then addC (oAt o j) (vecP (m % 6)) else oAt o j := by
  simp [movedP]
theorem after_ev (o : List Cb) (m : Int) (hl : o.length ≤ 8) (h6 : 6 ≤ m) (hm : m ≤ 9223372036854775807) : Ev (fun k => spec_l27After.f k o m) (movedP o m) := by
  obtain ⟨r, hr, hk⟩ : ∃ r, r = movedP o m ∧ Ev (fun k => spec_l27After.f k o m) r := by
    unfold spec_l27After.f
    refine ev_inv0 o.length (fun (s : List Cb) j => s = (movedP o m).take j) (fun r => r = movedP o m) (fun s i k => spec_l27After.l0 k o m s i) (fun s hi => ?_) (fun s j hj hi => ?_) [] rfl
    · refine ⟨s, ?_, Ev.step (f := fun _ => some s) (fun k => by simp only [spec_l27After.l0]; rw [if_neg (by omega)]) (Ev.now _)⟩
      rw [hi, List.take_of_length_le (by rw [movedP_len]; exact Nat.le_refl _)]
    · have hg : rd_T69 o (j : Int) = oAt o j := rfl
      have hw := wrap_succ j (show j < 9223372036854775807 by omega)
      have hsl : s.length < 5864062014805 := by
        rw [hi, List.length_take]
        omega
      have hnn := u64_nn j (by omega)
      have hq : m.tmod 6 = m % 6 := Int.tmod_eq_emod_of_nonneg (by omega)
      have hv := vec_eq (m % 6) (by omega)
      have hat := movedP_at o m j hj
      have hnext : (movedP o m).take (j + 1) = s ++ [if (m.toNat / 6).testBit j = true then addC (oAt o j) (vecP (m % 6)) else oAt o j] := by
        rw [List.take_succ_eq_append_getElem (by rw [movedP_len]; exact hj), hat, hi]
      refine .inr ⟨_, hnext.symm, fun r h2 => Ev.succ ?_⟩
      cases hb : (m.toNat / 6).testBit j with
      | false =>
        have hbit : bits .and .i64 (shr .i64 (wrap64 (Int.tdiv m 6)) (IntKind.u64.wrap (j : Int))) 1 = 0 := bit_of m j h6 hm (by omega) false hb
        rw [hb, if_neg (by simp)] at h2
        simp only [spec_l27After.l0, hg, hbit, hsl, if_true, if_false, show (j : Int) < (o.length : Int) from by omega, show (0 : Int) ≤ (j : Int) from by omega, hw, hnn, show ¬ ((0 : Int) = 1) from by omega]
        exact h2
      | true =>
        have hbit : bits .and .i64 (shr .i64 (wrap64 (Int.tdiv m 6)) (IntKind.u64.wrap (j : Int))) 1 = 1 := bit_of m j h6 hm (by omega) true hb
        rw [hb, if_pos rfl] at h2
        simp only [spec_l27After.l0, hg, hbit, hsl, hq, hv, spec_l09Add.f, Option.bind_some, if_true, if_false, show (j : Int) < (o.length : Int) from by omega, show (0 : Int) ≤ (j : Int) from by omega, hw, hnn]
        exact h2
  rw [← hr]
  exact hk
end Go.Proofs.Ytlbckkagjekhnaa.A

/- The program's search and the statement's come to the same positions, by the same ways. No program in sight. -/
namespace Go.Proofs.Ytlbckkagjekhnaa.A
open Go.RowKit Go.Proofs.YtlbckkagjekhnaaW.PrintWords Go.Proofs.YtlbckkagjekhnaaW.PrintLast Go.Proofs.YtlbckkagjekhnaaW.PrintMore
set_option linter.unusedVariables false
set_option linter.unusedSimpArgs false
abbrev ndAt (S : List Nd) (j : Nat) : Nd := S.getD j default
abbrev pwAt (T : List (List Cb × List Int)) (j : Nat) : List Cb × List Int := T.getD j default
def wayF (S : List Nd) : Nat → Nat → List Int
  | 0, _ => []
  | f + 1, j => if (ndAt S j).2.1 < 0 then [] else wayF S f (ndAt S j).2.1.toNat ++ [(ndAt S j).2.2]
/-- The moves that lead to the position at place j. -/
def wayN (S : List Nd) (j : Nat) : List Int := wayF S (j + 1) j
def WfN (S : List Nd) : Prop := ∀ j : Nat, j < S.length → (ndAt S j).2.1 < (j : Int)
theorem wayF_any {S : List Nd} (h : WfN S) : ∀ (f g j : Nat), j < S.length → j < f → j < g → wayF S f j = wayF S g j
  | 0, _, _, _, hf, _ => by omega
  | _ + 1, 0, _, _, _, hg => by omega
  | f + 1, g + 1, j, hj, hf, hg => by
    unfold wayF
    have hs := h j hj
    by_cases c : (ndAt S j).2.1 < 0
    · rw [if_pos c, if_pos c]
    · rw [if_neg c, if_neg c, wayF_any h f g (ndAt S j).2.1.toNat (by omega) (by omega) (by omega)]
theorem wayN_step {S : List Nd} (h : WfN S) {j : Nat} (hj : j < S.length) (h0 : ¬ (ndAt S j).2.1 < 0) : wayN S j = wayN S (ndAt S j).2.1.toNat ++ [(ndAt S j).2.2] := by
  have hs := h j hj
  conv => lhs; unfold wayN wayF
  rw [if_neg h0]
  congr 1
  exact wayF_any h _ _ _ (by omega) (by omega) (by omega)
theorem ndAt_app {S : List Nd} {x : Nd} {j : Nat} (hj : j < S.length) : ndAt (S ++ [x]) j = ndAt S j := by
  simp only [ndAt, List.getD_eq_getElem?_getD, List.getElem?_append_left hj]
theorem ndAt_new {S : List Nd} {x : Nd} : ndAt (S ++ [x]) S.length = x := by simp [ndAt, List.getD_eq_getElem?_getD]
theorem pwAt_app {T : List (List Cb × List Int)} {x : List Cb × List Int} {j : Nat} (hj : j < T.length) : pwAt (T ++ [x]) j = pwAt T j := by
  simp only [pwAt, List.getD_eq_getElem?_getD, List.getElem?_append_left hj]
theorem pwAt_new {T : List (List Cb × List Int)} {x : List Cb × List Int} : pwAt (T ++ [x]) T.length = x := by simp [pwAt, List.getD_eq_getElem?_getD]
theorem wayF_app {S : List Nd} (h : WfN S) (x : Nd) : ∀ (f j : Nat), j < S.length → wayF (S ++ [x]) f j = wayF S f j
  | 0, _, _ => rfl
  | f + 1, j, hj => by
    unfold wayF
    rw [ndAt_app hj]
    have hs := h j hj
    by_cases c : (ndAt S j).2.1 < 0
    · rw [if_pos c, if_pos c]
    · rw [if_neg c, if_neg c, wayF_app h x f _ (by omega)]
structure RelW (S : List Nd) (T : List (List Cb × List Int)) : Prop where
  wf : WfN S
  pos : S.map Prod.fst = T.map Prod.fst
  way : ∀ j : Nat, j < S.length → wayN S j = (pwAt T j).2
theorem RelW.len {S : List Nd} {T : List (List Cb × List Int)} (h : RelW S T) : S.length = T.length := by
  have := congrArg List.length h.pos
  simpa using this
theorem RelW.at {S : List Nd} {T : List (List Cb × List Int)} (h : RelW S T) (j : Nat) : (ndAt S j).1 = (pwAt T j).1 := by
  have h1 : (S.map Prod.fst).getD j (default : Nd).1 = (T.map Prod.fst).getD j (default : List Cb × List Int).1 := by rw [h.pos]; rfl
  simp only [List.getD_eq_getElem?_getD, List.getElem?_map] at h1
  simp only [ndAt, pwAt, List.getD_eq_getElem?_getD]
  cases hs : S[j]? <;> cases ht : T[j]? <;> rw [hs, ht] at h1 <;> exact h1
theorem RelW.add {S : List Nd} {T : List (List Cb × List Int)} (h : RelW S T) (k : Nat) (hk : k < S.length) (nx : List Cb) (m : Int) : RelW (S ++ [(nx, (k : Int), m)]) (T ++ [(nx, (pwAt T k).2 ++ [m])]) := by
  have hwf : WfN (S ++ [(nx, (k : Int), m)]) := fun j hj => by
    rw [List.length_append, List.length_singleton] at hj
    by_cases c : j < S.length
    · rw [ndAt_app c]; exact h.wf j c
    · have : j = S.length := by omega
      subst this
      rw [ndAt_new]
      show (k : Int) < _
      omega
  refine ⟨hwf, by rw [List.map_append, List.map_append, h.pos]; rfl, fun j hj => ?_⟩
  rw [List.length_append, List.length_singleton] at hj
  by_cases c : j < S.length
  · rw [pwAt_app (by rw [← h.len]; exact c), ← h.way j c]
    exact wayF_app h.wf _ _ j c
  · have : j = S.length := by omega
    subst this
    have hn : ndAt (S ++ [(nx, (k : Int), m)]) S.length = (nx, (k : Int), m) := ndAt_new
    rw [wayN_step hwf (by rw [List.length_append, List.length_singleton]; omega) (by rw [hn]; show ¬ (k : Int) < 0; omega), hn]
    dsimp only
    rw [Int.toNat_natCast, show wayN (S ++ [(nx, (k : Int), m)]) k = wayN S k from wayF_app h.wf _ _ k hk, h.way k hk, h.len, pwAt_new]
end Go.Proofs.Ytlbckkagjekhnaa.A

/- The statement's Clear answers as the program's areOffsets. No program in sight. -/
namespace Go.Proofs.Ytlbckkagjekhnaa.A
open Go.RowKit Go.Proofs.YtlbckkagjekhnaaW.PrintWords Go.Proofs.YtlbckkagjekhnaaW.PrintLast Go.Proofs.YtlbckkagjekhnaaW.PrintMore
set_option linter.unusedVariables false
theorem clear_ev (parts : List (List Cb)) (offs : List Cb) (hl : offs.length = parts.length) (h1 : 1 ≤ parts.length) (h8 : parts.length ≤ 8) (hsz : ∀ p ∈ parts, p.length ≤ 1048576) (hp : ∀ p ∈ parts, ∀ c ∈ p, inCb c 0 7 = true) :
    Ev (fun k => spec_l27Clear.f k parts offs) (areOffP parts offs) := Ev.val fun k => by unfold spec_l27Clear.f; rw [if_pos ⟨⟨h1, h8⟩, hsz, hp⟩]
end Go.Proofs.Ytlbckkagjekhnaa.A

/- The statement's Possible and Moves answer as the program's. No program in sight. -/
namespace Go.Proofs.Ytlbckkagjekhnaa.A
open Go.RowKit Go.Proofs.YtlbckkagjekhnaaW.PrintWords Go.Proofs.YtlbckkagjekhnaaW.PrintLast Go.Proofs.YtlbckkagjekhnaaW.PrintMore
set_option linter.unusedVariables false
set_option linter.unusedSimpArgs false
theorem shl_eq (n : Nat) (h : n ≤ 8) : shl .i64 6 (IntKind.u64.wrap (n : Int)) = ((6 * 2 ^ n : Nat) : Int) := (i64_w _).trans (pow6_len n h)
theorem odd_eq (m : Nat) (h6 : 6 ≤ m) (hm : m ≤ 1000000) : ((wrap64 (Int.tdiv (m : Int) 6)).tmod 2 == 1) = decide (m / 6 % 2 = 1) := by
  rw [set_of (m : Int) (by omega) (by omega), Int.toNat_natCast, show (((m / 6 : Nat) : Int)).tmod 2 = ((m / 6 % 2 : Nat) : Int) from rfl]
  rw [Bool.eq_iff_iff, beq_iff_eq, decide_eq_true_eq]
  omega
theorem poss_ev (parts : List (List Cb)) (o : List Cb) (hl : o.length = parts.length) (h1 : 1 ≤ parts.length) (h8 : parts.length ≤ 8) (hsz : ∀ p ∈ parts, p.length ≤ 1048576) (hp : ∀ p ∈ parts, ∀ c ∈ p, inCb c 0 7 = true) (m : Nat) (h6 : 6 ≤ m) (hT : m < 6 * 2 ^ parts.length) :
    Ev (fun k => spec_l27Possible.f k parts o (m : Int)) (isMv parts.length (m : Int) && possP parts o (m : Int)) := by
  have hpw := pow_le8 parts.length h8
  have hsh := shl_eq parts.length h8
  have hmv : isMv parts.length (m : Int) = decide (m / 6 % 2 = 0) := by
    unfold isMv
    rw [pow_int]
    generalize 2 ^ parts.length = N2 at hT hpw
    rw [decide_eq_true (show (6 : Int) ≤ (m : Int) by omega), decide_eq_true (show (m : Int) < 6 * (N2 : Int) by omega), Bool.true_and, Bool.true_and, decide_eq_decide]
    omega
  have hf : ∀ k, spec_l27Possible.f k parts o (m : Int) = spec_l27Possible.j0 k o (m : Int) (decide (m / 6 % 2 = 1)) parts := fun k => by
    unfold spec_l27Possible.f
    rw [if_pos (u64_nn _ h8), hsh, in_eq, Option.bind_some]
    generalize 2 ^ parts.length = N2 at hT hpw
    rw [wrap_id (by omega) (by omega), show inR (m : Int) 6 (((6 * N2 : Nat) : Int) - 1) = true by unfold inR; rw [Bool.and_eq_true, decide_eq_true_eq, decide_eq_true_eq]; omega, if_pos rfl, odd_eq m h6 (by omega)]
  refine Ev.congr hf ?_
  rw [hmv]
  by_cases c : m / 6 % 2 = 1
  · rw [decide_eq_true c, decide_eq_false (show ¬ m / 6 % 2 = 0 by omega), Bool.false_and]
    exact Ev.step (f := fun _ => some false) (fun k => by simp only [spec_l27Possible.j0, if_true]) (Ev.now _)
  · rw [decide_eq_false c, decide_eq_true (show m / 6 % 2 = 0 by omega), Bool.true_and]
    refine Ev.step (f := fun k => (spec_l27After.f k o (m : Int)).bind fun t412 => ((spec_l27Clear.f k parts t412).bind fun t415 => (some t415))) (fun k => by simp only [spec_l27Possible.j0, Bool.false_eq_true, if_false]) ?_
    refine Ev.bind (after_ev o (m : Int) (by omega) (by omega) (by generalize 2 ^ parts.length = N2 at hT hpw; omega)) ?_
    exact Ev.bind (clear_ev parts (movedP o (m : Int)) (by rw [movedP_len]; exact hl) h1 h8 hsz hp) (Ev.val fun k => rfl)
end Go.Proofs.Ytlbckkagjekhnaa.A

/- HAND spec.l09Solid (spec.l09Solid) walked over separate resources; it stands in the place of a printed text. -/
namespace Go.Proofs.Ytlbckkagjekhnaa.A
open Go.RowKit Go.Proofs.YtlbckkagjekhnaaW.PrintWords Go.Proofs.YtlbckkagjekhnaaW.PrintLast Go.Proofs.YtlbckkagjekhnaaW.PrintMore
set_option linter.unusedVariables false
set_option linter.unusedSimpArgs false
def spec_l09Solid.f (k : Nat) (l : List Cb) : Option Bool := if l.length ≤ 1048576 then some (solP l) else none
def ssoF.T4 : Bool × List (List Nat × List Nat) := (true, [([], []), ([], []), ([0, 1], [0, 1]), ([2], [2]), ([3], [3]), ([4], [4]), ([5, 4], [5]), ([6], [6]), ([7, 6], [6, 7]), ([8, 6, 6], [6, 8]), ([9], [9]), ([9], [9]), ([11, 9], [9, 11]), ([10, 12, 9], [9, 10, 12]), ([13, 9], [9, 13]), ([9], [9]), ([9], [9]), ([15, 16, 9], [9, 15, 16]), ([17, 9], [9, 17]), ([14, 18, 9, 9], [9, 14, 18]), ([19, 9], [9, 19]), ([9, 20, 6], [6, 9, 20]), ([6, 21], [6, 21])])
def ssoF.B4 : List Nat := [0, 0, 3, 7, 15, 31, 63, 127, 255, 511, 1023, 1023, 3071, 8191, 16383, 1023, 1023, 99327, 230399, 524287, 1048575, 2097151, 4194303]
theorem ssoF.tab4 : rtab .any (opsOf Try.f76 4) = ssoF.T4 := by kernel_rfl
theorem ssoF.bits4 : waitsOk ssoF.T4.2 ssoF.B4 = true := by kernel_rfl
set_option maxHeartbeats 4000000 in
set_option maxRecDepth 100000 in
theorem spec_l09Solid.calls (k : Nat) (A0 : Option Addr) (c0 : Nat) (l : List Cb) (r : Bool) (w : World) (hr0 : Kd.C k69 w A0 l.length l) (hc0 : l.length ≤ c0) (h : spec_l09Solid.f k l = some r) :
    Calls Try.prog 76 #[.slice A0 l.length c0] w fun e w' => e = .returned (.bool r) ∧ Below w.heap.size w w' := by
 (have hu69 := Try.underlying69); (unfold spec_l09Solid.f at h); (split at h)
 case isFalse => cases h
 (rename_i hz); (obtain rfl := Option.some.inj h); (have HR0 := A0_ hr0); (have HZ := A0_ hz); (have HS := A0_ (Sp.start w)); clear hr0 hz h; (go_enter Try.func76, Try.ntmps76); go_wp2
 go_loopg [3] (l.length + 1) (fun kq v3 w' => ∃ (i : Nat), v3 = .int .i64 (i : Int) ∧ Aside0 (i ≤ l.length ∧ kq + i = l.length + 1 ∧ (List.range i).all (solStep l) = true) ∧ Aside0 (Sp w [] w'))
 case atStart => exact ⟨0, rfl, ⟨by omega, by omega, rfl⟩, HS⟩
 case round =>
  clear HS; (obtain ⟨i, rfl, HX, HS⟩ := hrel); (obtain ⟨k1, rfl⟩ : ∃ k1, gk = k1 + 1 := ⟨gk - 1, by have := HX.out; omega⟩); (by_cases ci : i < l.length)
  ·(have ci0 : decide (i < l.length) = true := decide_eq_true ci); (have q0 : (0 ≤ (i : Int)) = True := eq_true (by omega)); (have q1 : ((i : Int) < (l.length : Int)) = True := eq_true (by omega)); (have q2 : (i < l.length) = True := eq_true ci); (have HW := A0_ (wrap_succ i (by have := HZ.out; omega))); (have HNO := A0_ (solP_no l i ci)); (have HNX := A0_ (solP_next l i HX.out.2.2)); (obtain ⟨adl, e, hx0, hx1, hx2⟩ := at_T69 HR0.out (i : Int) (by omega) (by omega)); subst e; (rw [show rd_T69 l (i : Int) = cAt l i from rfl] at hx0 hx1 hx2); (rw [Int.toNat_natCast] at hx0 hx1 hx2); (have hss : solStep l i = (inCb (cAt l i) (-100) 100 && (decide (i = 0) || lessC (cAt l (i - 1)) (cAt l i))) := rfl); (rw [hss] at HNO HNX); clear hss; (have HCI := A0_ ci); (obtain ⟨c, hc⟩ : ∃ c, c = cAt l i := ⟨_, rfl⟩); (rw [← hc] at hx0 hx1 hx2 HNO HNX); (have HC0 := A0_ hx0); (have HC1 := A0_ hx1); (have HC2 := A0_ hx2); clear ci hc hx0 hx1 hx2; (have HS_ := A0_ (show Sp w (([] : List Res) ++ ([] : List Res)) wr.drew from Sp.drew HS.out)); clear HS; (have HS := HS_); clear HS_
   cases b : inCb c (-100) 100 with
   | false =>
    (have HB := A0_ ((cube_eq c).trans (congrArg some b))); (have HF := A0_ (HNO.out (by rw [b]; rfl))); clear HNO HNX b; go_wp2
    refine start_ (n := 23) (S := fun w' => w'.cell? (adl.add (i * 3)) = some (.int .i64 c.f0) ∧ w'.cell? ⟨(adl.add (i * 3)).block, (adl.add (i * 3)).off + 1, none⟩ = some (.int .i64 c.f1) ∧ w'.cell? ⟨(adl.add (i * 3)).block, (adl.add (i * 3)).off + 2, none⟩ = some (.int .i64 c.f2)) (ds := []) #[ff,ff,ff,ff,ff,ff,ff,ff,ff,ff,ff,ff,ff,ff,ff,ff,ff,ff,ff,ff,ff,ff,ff] (by kernel_rfl) rfl rfl (⟨pw_cell_below HS.out.below HC0.out, pw_cell_below HS.out.below HC1.out, pw_cell_below HS.out.below HC2.out⟩) (fun hHeld => ?_)
    refine with_tabW ssoF.tab4 ssoF.bits4 (fun HT_ HW_ => ?_)
    (generalize wr.drew = wD at HS hHeld ⊢); (refine on_ 0 (some 10) ?_); (refine on_ 1 (some 11) ?_); (refine on_ 2 (some 12) ?_); (refine tk_ 3 (some 13) ?_)
    refine o1_ 4 (some 14) (fun K hK => ?_)
    (refine goes_ Try.func99 (by kernel_rfl) rfl #[.agg #[.int .i64 c.f0, .int .i64 c.f1, .int .i64 c.f2]] (by rfl) rfl rfl (by (try simp only [List.map_toArray, List.map_cons, List.map_nil]); first | done | rfl | (simp only [List.length_drop, List.length_take]; rfl)) ?_); (refine (spec_l09Cube.calls c.f0 c.f1 c.f2 false _ HB.out).mono ?_); (rintro e wA11 ⟨rfl, hb⟩); (refine ⟨_, rfl, ?_⟩); (have HS_ := A0_ (Sp.far HS.out hb)); clear HS; (have HS := HS_); clear HS_; clear hb
    refine hK.out _ _ (⟨pw_cell_below HS.out.below HC0.out, pw_cell_below HS.out.below HC1.out, pw_cell_below HS.out.below HC2.out⟩) (fun hHeld => ?_)
    clear hK K; (refine nm_ (some 14) ?_); (refine on_ 5 (some 15) ?_); (refine on_ 6 (some 16) ?_); (refine of_ 7 (some 17) ?_); (refine of_ 8 (some 18) ?_); (refine of_ 9 (some 19) ?_); (refine of_ 10 (some 20) ?_); (refine of_ 11 (some 21) ?_); (refine of_ 12 (some 22) ?_); (refine of_ 13 (some 23) ?_); (refine of_ 14 (some 24) ?_); (refine of_ 15 (some 25) ?_); (refine of_ 16 (some 26) ?_); (refine of_ 17 (some 27) ?_); (refine of_ 18 (some 28) ?_); (refine of_ 19 (some 29) ?_); (refine of_ 20 (some 30) ?_); (refine of_ 21 (some 31) ?_); (refine on_ 22 (some 32) ?_); (refine dn_ ?_); go_wp2; go_ret; (exact ⟨by rw [HF.out]; rfl, HS.out.below⟩)
   | true =>
    (have HB := A0_ ((cube_eq c).trans (congrArg some b))); (rw [b, Bool.true_and] at HNO HNX); clear b; (by_cases hi0 : i = 0)
    ·(have HN := A0_ (HNX.out (by rw [decide_eq_true hi0]; rfl))); (have d0 : decide (0 < i) = false := decide_eq_false (by omega)); (have d1 : (0 < i) = False := eq_false (by omega)); (have d2 : decide ((0 : Int) < (i : Int)) = false := decide_eq_false (by omega)); (have d3 : ((0 : Int) < (i : Int)) = False := eq_false (by omega)); clear HNO HNX hi0; go_wp2
     refine start_ (n := 23) (S := fun w' => w'.cell? (adl.add (i * 3)) = some (.int .i64 c.f0) ∧ w'.cell? ⟨(adl.add (i * 3)).block, (adl.add (i * 3)).off + 1, none⟩ = some (.int .i64 c.f1) ∧ w'.cell? ⟨(adl.add (i * 3)).block, (adl.add (i * 3)).off + 2, none⟩ = some (.int .i64 c.f2)) (ds := []) #[ff,ff,ff,ff,ff,ff,ff,ff,ff,ff,ff,ff,ff,ff,ff,ff,ff,ff,ff,ff,ff,ff,ff] (by kernel_rfl) rfl rfl (⟨pw_cell_below HS.out.below HC0.out, pw_cell_below HS.out.below HC1.out, pw_cell_below HS.out.below HC2.out⟩) (fun hHeld => ?_)
     refine with_tabW ssoF.tab4 ssoF.bits4 (fun HT_ HW_ => ?_)
     (generalize wr.drew = wD at HS hHeld ⊢); (refine on_ 0 (some 10) ?_); (refine on_ 1 (some 11) ?_); (refine on_ 2 (some 12) ?_); (refine tk_ 3 (some 13) ?_)
     refine o1_ 4 (some 14) (fun K hK => ?_)
     (refine goes_ Try.func99 (by kernel_rfl) rfl #[.agg #[.int .i64 c.f0, .int .i64 c.f1, .int .i64 c.f2]] (by rfl) rfl rfl (by (try simp only [List.map_toArray, List.map_cons, List.map_nil]); first | done | rfl | (simp only [List.length_drop, List.length_take]; rfl)) ?_); (refine (spec_l09Cube.calls c.f0 c.f1 c.f2 true _ HB.out).mono ?_); (rintro e wA11 ⟨rfl, hb⟩); (refine ⟨_, rfl, ?_⟩); (have HS_ := A0_ (Sp.far HS.out hb)); clear HS; (have HS := HS_); clear HS_; clear hb
     refine hK.out _ _ (⟨pw_cell_below HS.out.below HC0.out, pw_cell_below HS.out.below HC1.out, pw_cell_below HS.out.below HC2.out⟩) (fun hHeld => ?_)
     clear hK K; (refine nm_ (some 14) ?_); (refine on_ 5 (some 15) ?_); (refine on_ 6 (some 16) ?_); (refine on_ 7 (some 17) ?_); (refine on_ 8 (some 18) ?_); (refine on_ 9 (some 19) ?_); (refine of_ 10 (some 20) ?_); (refine of_ 11 (some 21) ?_); (refine of_ 12 (some 22) ?_); (refine of_ 13 (some 23) ?_); (refine of_ 14 (some 24) ?_); (refine of_ 15 (some 25) ?_); (refine of_ 16 (some 26) ?_); (refine of_ 17 (some 27) ?_); (refine of_ 18 (some 28) ?_); (refine of_ 19 (some 29) ?_); (refine of_ 20 (some 30) ?_); (refine on_ 21 (some 31) ?_); (refine on_ 22 (some 32) ?_); (refine dn_ ?_); go_wp2; (go_roundg k1)
     case measure => omega
     case rel =>
      (rw [HW.out]); (exact ⟨i + 1, rfl, ⟨by have := HCI.out; omega, by have := HX.out; omega, HN.out⟩, HS⟩)
    ·(have d0 : decide (0 < i) = true := decide_eq_true (by omega)); (have d1 : (0 < i) = True := eq_true (by omega)); (have d2 : decide ((0 : Int) < (i : Int)) = true := decide_eq_true (by omega)); (have d3 : ((0 : Int) < (i : Int)) = True := eq_true (by omega)); (have e1 : wrap64 ((i : Int) - 1) = ((i - 1 : Nat) : Int) := by rw [wrap_id (by omega) (by have := HZ.out; have := HCI.out; omega)]; omega); (have p0 : (0 ≤ ((i - 1 : Nat) : Int)) = True := eq_true (by omega)); (have p1 : (((i - 1 : Nat) : Int) < (l.length : Int)) = True := eq_true (by have := HCI.out; omega)); (have p2 : (i - 1 < l.length) = True := eq_true (by have := HCI.out; omega)); (rw [decide_eq_false hi0, Bool.false_or] at HNO HNX); (obtain ⟨ad2, e, hx0, hx1, hx2⟩ := at_T69 HR0.out ((i - 1 : Nat) : Int) (by omega) (by have := HCI.out; omega)); (injection e with e); subst e; (rw [show rd_T69 l ((i - 1 : Nat) : Int) = cAt l (i - 1) from rfl] at hx0 hx1 hx2); (rw [Int.toNat_natCast] at hx0 hx1 hx2); (obtain ⟨q, hq⟩ : ∃ q, q = cAt l (i - 1) := ⟨_, rfl⟩); (rw [← hq] at hx0 hx1 hx2 HNO HNX); (have HQ0 := A0_ hx0); (have HQ1 := A0_ hx1); (have HQ2 := A0_ hx2); (obtain ⟨t, ht⟩ : ∃ t, t = lessC q c := ⟨_, rfl⟩); (rw [← ht] at HNO HNX); (have HL := A0_ ((less_eq q c).trans (congrArg some ht.symm))); clear hx0 hx1 hx2 hq ht hi0; go_wp2
     refine start_ (n := 23) (S := fun w' => w'.cell? (adl.add (i * 3)) = some (.int .i64 c.f0) ∧ w'.cell? ⟨(adl.add (i * 3)).block, (adl.add (i * 3)).off + 1, none⟩ = some (.int .i64 c.f1) ∧ w'.cell? ⟨(adl.add (i * 3)).block, (adl.add (i * 3)).off + 2, none⟩ = some (.int .i64 c.f2) ∧ w'.cell? (adl.add ((i - 1) * 3)) = some (.int .i64 q.f0) ∧ w'.cell? ⟨(adl.add ((i - 1) * 3)).block, (adl.add ((i - 1) * 3)).off + 1, none⟩ = some (.int .i64 q.f1) ∧ w'.cell? ⟨(adl.add ((i - 1) * 3)).block, (adl.add ((i - 1) * 3)).off + 2, none⟩ = some (.int .i64 q.f2)) (ds := []) #[ff,ff,ff,ff,ff,ff,ff,ff,ff,ff,ff,ff,ff,ff,ff,ff,ff,ff,ff,ff,ff,ff,ff] (by kernel_rfl) rfl rfl (⟨pw_cell_below HS.out.below HC0.out, pw_cell_below HS.out.below HC1.out, pw_cell_below HS.out.below HC2.out, pw_cell_below HS.out.below HQ0.out, pw_cell_below HS.out.below HQ1.out, pw_cell_below HS.out.below HQ2.out⟩) (fun hHeld => ?_)
     refine with_tabW ssoF.tab4 ssoF.bits4 (fun HT_ HW_ => ?_)
     (generalize wr.drew = wD at HS hHeld ⊢); (refine on_ 0 (some 10) ?_); (refine on_ 1 (some 11) ?_); (refine on_ 2 (some 12) ?_); (refine tk_ 3 (some 13) ?_)
     refine o1_ 4 (some 14) (fun K hK => ?_)
     (refine goes_ Try.func99 (by kernel_rfl) rfl #[.agg #[.int .i64 c.f0, .int .i64 c.f1, .int .i64 c.f2]] (by rfl) rfl rfl (by (try simp only [List.map_toArray, List.map_cons, List.map_nil]); first | done | rfl | (simp only [List.length_drop, List.length_take]; rfl)) ?_); (refine (spec_l09Cube.calls c.f0 c.f1 c.f2 true _ HB.out).mono ?_); (rintro e wA11 ⟨rfl, hb⟩); (refine ⟨_, rfl, ?_⟩); (have HS_ := A0_ (Sp.far HS.out hb)); clear HS; (have HS := HS_); clear HS_; clear hb
     refine hK.out _ _ (⟨pw_cell_below HS.out.below HC0.out, pw_cell_below HS.out.below HC1.out, pw_cell_below HS.out.below HC2.out, pw_cell_below HS.out.below HQ0.out, pw_cell_below HS.out.below HQ1.out, pw_cell_below HS.out.below HQ2.out⟩) (fun hHeld => ?_)
     clear hK K; (refine nm_ (some 14) ?_); (refine on_ 5 (some 15) ?_); (refine on_ 6 (some 16) ?_); (refine on_ 7 (some 17) ?_); (refine on_ 8 (some 18) ?_); (refine on_ 9 (some 19) ?_); (refine on_ 10 (some 20) ?_); (refine on_ 11 (some 21) ?_); (refine on_ 12 (some 22) ?_); (refine on_ 13 (some 23) ?_); (refine tk_ 14 (some 24) ?_); (refine on_ 15 (some 25) ?_); (refine on_ 16 (some 26) ?_); (refine on_ 17 (some 27) ?_); (refine tk_ 18 (some 28) ?_)
     refine o1_ 19 (some 29) (fun K hK => ?_)
     (refine goes_ Try.func100 (by kernel_rfl) rfl #[.agg #[.int .i64 q.f0, .int .i64 q.f1, .int .i64 q.f2], .agg #[.int .i64 c.f0, .int .i64 c.f1, .int .i64 c.f2]] (by rfl) rfl rfl (by (try simp only [List.map_toArray, List.map_cons, List.map_nil]); first | done | rfl | (simp only [List.length_drop, List.length_take]; rfl)) ?_); (refine (spec_l09Less.calls q.f0 q.f1 q.f2 c.f0 c.f1 c.f2 t _ HL.out).mono ?_); (rintro e wA12 ⟨rfl, hb⟩); (refine ⟨_, rfl, ?_⟩); (have HS_ := A0_ (Sp.far HS.out hb)); clear HS; (have HS := HS_); clear HS_; clear hb
     refine hK.out _ _ (⟨pw_cell_below HS.out.below HC0.out, pw_cell_below HS.out.below HC1.out, pw_cell_below HS.out.below HC2.out, pw_cell_below HS.out.below HQ0.out, pw_cell_below HS.out.below HQ1.out, pw_cell_below HS.out.below HQ2.out⟩) (fun hHeld => ?_)
     clear hK K; (refine nm_ (some 29) ?_); (refine on_ 20 (some 30) ?_); (refine on_ 21 (some 31) ?_); (refine on_ 22 (some 32) ?_); (refine dn_ ?_)
     cases t with
     | true =>
      (have HN := A0_ (HNX.out rfl)); go_wp2; (go_roundg k1)
      case measure => omega
      case rel =>
       (rw [HW.out]); (exact ⟨i + 1, rfl, ⟨by have := HCI.out; omega, by have := HX.out; omega, HN.out⟩, HS⟩)
     | false =>
      (have HF := A0_ (HNO.out rfl)); go_wp2; go_ret; (exact ⟨by rw [HF.out]; rfl, HS.out.below⟩)
  ·(have ci0 : decide (i < l.length) = false := decide_eq_false ci); (have ci1 : (i < l.length) = False := eq_false ci); (have hi : i = l.length := by have := HX.out; omega); (have HF := A0_ ((in_eq (l.length : Int) 1 24).trans (congrArg some (solP_end l (hi ▸ HX.out.2.2)).symm))); clear ci hi
   go_wp2_with (first
    | (go_at_call 45; refine (spec_l01In.calls (l.length : Int) 1 24 (solP l) _ HF.out).mono ?_; rintro e wc_ ⟨rfl, hb_⟩; have HS_ := A0_ (Sp.far HS.out hb_.below); clear HS; have HS := HS_; clear HS_; clear hb_))
   go_ret; (exact ⟨rfl, HS.out.below⟩)
end Go.Proofs.Ytlbckkagjekhnaa.A


/- The program's isSolid answers the same plain word. No program in sight. -/
namespace Go.Proofs.Ytlbckkagjekhnaa.A
open Go.RowKit Go.Proofs.YtlbckkagjekhnaaW.PrintWords Go.Proofs.YtlbckkagjekhnaaW.PrintLast Go.Proofs.YtlbckkagjekhnaaW.PrintMore
theorem isolid_ev (l : List Cb) (h : l.length ≤ 1048576) : Ev (fun k => impl_isSolid.f k l) (solP l) := Ev.val fun k => by unfold impl_isSolid.f; rw [if_pos h]
end Go.Proofs.Ytlbckkagjekhnaa.A

/- The program's connectedCubes answers the plain word. No program in sight. -/
namespace Go.Proofs.Ytlbckkagjekhnaa.A
open Go.RowKit Go.Proofs.YtlbckkagjekhnaaW.PrintWords Go.Proofs.YtlbckkagjekhnaaW.PrintLast Go.Proofs.YtlbckkagjekhnaaW.PrintMore
set_option linter.unusedVariables false
set_option linter.unusedSimpArgs false
theorem addO_sub {l o : List Cb} (h : ∀ c ∈ o, c ∈ l) (c : Cb) : ∀ x ∈ addO l o c, x ∈ l := by
  unfold addO
  split
  case isFalse => exact h
  rename_i hb
  rw [Bool.and_eq_true, List.contains_iff_mem] at hb
  intro x hx
  rcases List.mem_append.1 hx with hx | hx
  · exact h x hx
  · rw [List.mem_singleton.1 hx]; exact hb.1
theorem expI_sub {l o : List Cb} (h : ∀ c ∈ o, c ∈ l) (c : Cb) : ∀ i, i ≤ 6 → ∀ x ∈ expI l o c i, x ∈ l
  | 0, _ => h
  | i + 1, hi => by
    rw [expI_succ l o c i (by omega)]
    exact addO_sub (expI_sub h c i (by omega)) _
theorem around_eq (c : Cb) (h : inCb c (-100) 100 = true) : impl_cubesAround.f c.f0 c.f1 c.f2 = some (stepsC.map (addC c)) := by
  rw [inCb_iff] at h
  unfold impl_cubesAround.f stepsC addC
  simp only [List.map_cons, List.map_nil]
  have w0 : ∀ x : Int, -100 ≤ x → x ≤ 100 → wrap64 (x + 0) = x := fun x h1 h2 => by rw [Int.add_zero]; exact wrap_id (by omega) (by omega)
  rw [w0 _ h.1.1 h.1.2, w0 _ h.2.1.1 h.2.1.2, w0 _ h.2.2.1 h.2.2.2]
  rfl
theorem con_in (l : List Cb) (h : l.length ≤ 1048576) (o c nb) (hnb : nb = stepsC.map (addC c)) (hf : FitO l o) (k : Int) (R : Bool) (hR : Ev (fun n => impl_connectedCubes.l0 n l (expI l o c 6) (wrap64 (k + 1))) R) :
    ∀ (j i : Nat), i + j = 6 → Ev (fun n => impl_connectedCubes.l1 n l (expI l o c i) k nb (nb.length : Int) (i : Int)) R
  | 0, i, hi => by
    have : i = 6 := by omega
    subst this
    refine Ev.step (f := fun n => impl_connectedCubes.l0 n l (expI l o c 6) (wrap64 (k + 1))) (fun n => ?_) hR
    have hl : nb.length = 6 := by rw [hnb]; rfl
    simp only [impl_connectedCubes.l1]
    rw [if_neg (by omega)]
  | j + 1, i, hi => by
    have ih := con_in l h o c nb hnb hf k R hR j (i + 1) (by omega)
    have hl : nb.length = 6 := by rw [hnb]; rfl
    have hi6 : i < 6 := by omega
    have hx : rd_T69 nb (i : Int) = addC c (cAt stepsC i) := by
      subst hnb
      have hs : i < (stepsC.map (addC c)).length := hi6
      have hs2 : i < stepsC.length := hi6
      unfold rd_T69 cAt
      rw [getD_nat _ _ i hs, List.getElem_map, List.getD_eq_getElem?_getD, List.getElem?_eq_getElem hs2]
      rfl
    have hw := wrap_succ i (by omega)
    have hsz := (FitO.exp hf c i (by omega)).len
    have hes := expI_succ l o c i hi6
    generalize addC c (cAt stepsC i) = x at hx hes
    refine Ev.step (f := fun n => (impl_Cube_111.f n l x.f0 x.f1 x.f2).bind fun t => if t = true then (impl_Cube_111.f n (expI l o c i) x.f0 x.f1 x.f2).bind fun t2 => if t2 = true then impl_connectedCubes.l1 n l (expI l o c i) k nb (nb.length : Int) ((i + 1 : Nat) : Int) else impl_connectedCubes.l1 n l (expI l o c i ++ [x]) k nb (nb.length : Int) ((i + 1 : Nat) : Int) else impl_connectedCubes.l1 n l (expI l o c i) k nb (nb.length : Int) ((i + 1 : Nat) : Int)) (fun n => ?_) (Ev.bind (contains_ev l x h) ?_)
    · simp only [impl_connectedCubes.l1, hx, hw, if_true, show (i : Int) < (nb.length : Int) from by omega, show (0 : Int) ≤ (i : Int) from by omega, show (expI l o c i).length < 5864062014805 from by omega]
    · unfold addO at hes
      cases c1 : l.contains x with
      | false =>
        rw [c1, Bool.false_and, if_neg (by simp)] at hes
        rw [hes] at ih
        exact ih
      | true =>
        refine Ev.bind (contains_ev (expI l o c i) x (by omega)) ?_
        cases c2 : (expI l o c i).contains x with
        | true =>
          rw [c1, c2, Bool.not_true, Bool.and_false, if_neg (by simp)] at hes
          rw [hes] at ih
          exact ih
        | false =>
          rw [c1, c2, Bool.not_false, Bool.and_true, if_pos rfl] at hes
          rw [hes] at ih
          exact ih
theorem con_out (l : List Cb) (h : l.length ≤ 1048576) (hr : ∀ c ∈ l, inCb c (-100) 100 = true) : ∀ (f : Nat) (o : List Cb) (k : Nat), f + k = l.length + 1 → k ≤ o.length → FitO l o → (∀ c ∈ o, c ∈ l) → Ev (fun n => impl_connectedCubes.l0 n l o (k : Int)) (decide ((bfsO l f o k).length = l.length))
  | 0, o, k, hf, hk, hft, hs => by
    have := hft.len
    omega
  | f + 1, o, k, hf, hk, hft, hs => by
    have hol := hft.len
    unfold bfsO
    by_cases c : k < o.length
    · rw [if_pos c]
      have hpr := expI_pre l o (cAt o k) k c 6 (Nat.le_refl _)
      have ih := con_out l h hr f (expI l o (cAt o k) 6) (k + 1) (by omega) (by omega) (FitO.exp hft _ 6 (Nat.le_refl _)) (expI_sub hs _ 6 (Nat.le_refl _))
      have hm : cAt o k ∈ o := by
        have : cAt o k = o[k] := by simp [cAt, List.getD_eq_getElem?_getD, c]
        rw [this]; exact List.getElem_mem _
      have hw := wrap_succ k (by omega)
      have ha := around_eq (cAt o k) (hr _ (hs _ hm))
      have hg : rd_T69 o (k : Int) = cAt o k := rfl
      have hin := con_in l h o (cAt o k) (stepsC.map (addC (cAt o k))) rfl hft (k : Int) _ (by rw [hw]; exact ih) 6 0 (by omega)
      refine Ev.step (f := fun n => impl_connectedCubes.l1 n l o (k : Int) (stepsC.map (addC (cAt o k))) ((stepsC.map (addC (cAt o k))).length : Int) 0) (fun n => ?_) hin
      simp only [impl_connectedCubes.l0, hg, ha, Option.bind_some, if_true, show (k : Int) < (o.length : Int) from by omega, show (0 : Int) ≤ (k : Int) from by omega]
    · rw [if_neg c]
      refine Ev.step (f := fun n => some (decide (o.length = l.length))) (fun n => ?_) (Ev.now _)
      simp only [impl_connectedCubes.l0]
      rw [if_neg (by omega)]
      congr 1
      rw [Bool.eq_iff_iff, beq_iff_eq, decide_eq_true_eq]
      omega
theorem icon_ev (l : List Cb) (h1 : 1 ≤ l.length) (h : l.length ≤ 1048576) (hr : ∀ c ∈ l, inCb c (-100) 100 = true) : Ev (fun k => impl_connectedCubes.f k l) (conP l) := by
  have hm : cAt l 0 ∈ l := by
    have h0 : 0 < l.length := h1
    have : cAt l 0 = l[0] := by simp [cAt, List.getD_eq_getElem?_getD, h0]
    rw [this]; exact List.getElem_mem _
  refine Ev.congr (f := fun k => impl_connectedCubes.l0 k l [cAt l 0] ((0 : Nat) : Int)) (fun k => ?_) (con_out l h hr (l.length + 1) [cAt l 0] 0 (by omega) (by simp) (FitO.start h1) (fun c hc => by rw [List.mem_singleton.1 hc]; exact hm))
  unfold impl_connectedCubes.f
  rw [if_pos (by omega)]
  rfl
theorem sol_in (l : List Cb) (h : solP l = true) : 1 ≤ l.length ∧ l.length ≤ 24 ∧ ∀ c ∈ l, inCb c (-100) 100 = true := by
  unfold solP at h
  rw [Bool.and_eq_true, Bool.and_eq_true, decide_eq_true_eq, decide_eq_true_eq, List.all_eq_true] at h
  refine ⟨h.2.1, h.2.2, fun c hc => ?_⟩
  obtain ⟨i, hi, rfl⟩ := List.mem_iff_getElem.1 hc
  have := h.1 i (List.mem_range.2 hi)
  unfold solStep at this
  rw [Bool.and_eq_true] at this
  have e : oAt l i = l[i] := by simp [oAt, List.getD_eq_getElem?_getD, hi]
  rw [← e]
  exact this.1
end Go.Proofs.Ytlbckkagjekhnaa.A

namespace Go.Proofs.Ytlbckkagjekhnaa.A
open Go.RowKit Go.Proofs.YtlbckkagjekhnaaW.PrintWords Go.Proofs.YtlbckkagjekhnaaW.PrintLast Go.Proofs.YtlbckkagjekhnaaW.PrintMore
attribute [local go_sem] max2_int min2_int max_two min_two max_three min_three max_four min_four   -- for this text's walks alone
set_option linter.unusedVariables false
set_option linter.unusedSimpArgs false
def spec_l09Steps.f  : Option ((List (S69))) := some (([(⟨0, 0, (-1)⟩ : S69), (⟨0, (-1), 0⟩ : S69), (⟨(-1), 0, 0⟩ : S69), (⟨1, 0, 0⟩ : S69), (⟨0, 1, 0⟩ : S69), (⟨0, 0, 1⟩ : S69)] : List (S69)))
set_option maxHeartbeats 8000000 in
set_option maxRecDepth 100000 in
theorem spec_l09Steps.calls  (r : List (S69)) (w : World) (h : spec_l09Steps.f  = some r) :
    Calls Try.prog 101 #[] w fun e w' => ∃ v0_ : Value, e = .returned (v0_) ∧ Kd.R k69 69 w' w.heap.size (fun _ => True) v0_ r ∧ Below w.heap.size w w' := by
 (have hu69 := Try.underlying69); (have HB := A0_ (Below.refl w.heap.size w)); (have H : (some (([(⟨0, 0, (-1)⟩ : S69), (⟨0, (-1), 0⟩ : S69), (⟨(-1), 0, 0⟩ : S69), (⟨1, 0, 0⟩ : S69), (⟨0, 1, 0⟩ : S69), (⟨0, 0, 1⟩ : S69)] : List (S69)))) = some r := h); clear h; (obtain ⟨y122, hy122⟩ : ∃ y_ : List (S69), y_ = (([(⟨0, 0, (-1)⟩ : S69), (⟨0, (-1), 0⟩ : S69), (⟨(-1), 0, 0⟩ : S69), (⟨1, 0, 0⟩ : S69), (⟨0, 1, 0⟩ : S69), (⟨0, 0, 1⟩ : S69)] : List (S69))) := ⟨_, rfl⟩); (replace H : (some y122) = some r := by first | (rw [hy122]; with_reducible exact H) | (have H2_ := (Option.bind_some _ _).symm.trans H; rw [hy122]; with_reducible exact H2_) | (have H2_ := (Option.bind_some _ _).symm.trans H; with_reducible exact H2_) | with_reducible exact H | (rw [hy122]; exact H) | exact H); (have Ny122 := A0_ hy122); clear hy122; (obtain rfl := Option.some.inj H); (go_enter Try.func101, Try.ntmps101)
 go_wp2_with (first | ((with_reducible refine gate_dst (N := 7) rfl ?_); refine Kd.R_lit k69 _ 69 ?hg (N := 7) ?hd (xs := ([(⟨0, 0, (-1)⟩ : S69), (⟨0, (-1), 0⟩ : S69), (⟨(-1), 0, 0⟩ : S69), (⟨1, 0, 0⟩ : S69), (⟨0, 1, 0⟩ : S69), (⟨0, 0, 1⟩ : S69)] : List (S69))) (inner := [.int .i64 0, .int .i64 0, .int .i64 (-1), .int .i64 0, .int .i64 (-1), .int .i64 0, .int .i64 (-1), .int .i64 0, .int .i64 0, .int .i64 1, .int .i64 0, .int .i64 0, .int .i64 0, .int .i64 1, .int .i64 0, .int .i64 0, .int .i64 0, .int .i64 1]) (ok := fun _ => True) (okp := fun _ => True) ?hr ?hp (fun _ hk => hk) trivial (Below.refl _ _) (Nat.le_refl _) (by simp) ?_; (case hd => rfl); (case hg => rfl); (case hr => first | (go_simp; done) | (go_simp; rfl)); (case hp => exact (Reps.c3 (show Kd.M k69 _ _ _ (⟨0, 0, (-1)⟩ : S69) [.int .i64 0, .int .i64 0, .int .i64 (-1)] from (k69_mkM _ _ _ (⟨0, 0, (-1)⟩ : S69) )) (Reps.c3 (show Kd.M k69 _ _ _ (⟨0, (-1), 0⟩ : S69) [.int .i64 0, .int .i64 (-1), .int .i64 0] from (k69_mkM _ _ _ (⟨0, (-1), 0⟩ : S69) )) (Reps.c3 (show Kd.M k69 _ _ _ (⟨(-1), 0, 0⟩ : S69) [.int .i64 (-1), .int .i64 0, .int .i64 0] from (k69_mkM _ _ _ (⟨(-1), 0, 0⟩ : S69) )) (Reps.c3 (show Kd.M k69 _ _ _ (⟨1, 0, 0⟩ : S69) [.int .i64 1, .int .i64 0, .int .i64 0] from (k69_mkM _ _ _ (⟨1, 0, 0⟩ : S69) )) (Reps.c3 (show Kd.M k69 _ _ _ (⟨0, 1, 0⟩ : S69) [.int .i64 0, .int .i64 1, .int .i64 0] from (k69_mkM _ _ _ (⟨0, 1, 0⟩ : S69) )) (Reps.c3 (show Kd.M k69 _ _ _ (⟨0, 0, 1⟩ : S69) [.int .i64 0, .int .i64 0, .int .i64 1] from (k69_mkM _ _ _ (⟨0, 0, 1⟩ : S69) )) (Reps.none _ _)))))))); intro v123 w1 ho2 hb hg_ hnew_; clear hg_ hnew_; (first | rw [← Ny122.out] at ho2 | (simp only [Int.reduceToNat] at ho2; rw [← Ny122.out] at ho2)); have n0_ := A0_ (Kd.R_lower ho2 (below_size (by repeat (first | (with_reducible first | exact HB.out | apply ba_ | apply bn_ | apply bd_) | exact HB.out)))); have n1_ := A0_ (below_step (by repeat (first | (with_reducible first | exact HB.out | apply ba_ | apply bn_ | apply bd_) | exact HB.out)) hb); clear HB; have HO124 := n0_; have HB := n1_; clear n0_ n1_; clear hb ho2))
 go_ret; (exact ⟨_, by first | rfl | (simp [errW_none, errW_some] <;> rfl) | (simp [*, errW_none, errW_some] <;> rfl), by (with_reducible repeat (first | apply Ra_ | apply Rn_ | apply Rd_)); exact HO124.out, by repeat (first | (with_reducible first | exact HB.out | apply ba_ | apply bn_ | apply bd_) | exact HB.out)⟩)
end Go.Proofs.Ytlbckkagjekhnaa.A

/- HAND spec.l09Connected (spec.l09Connected) walked over separate resources; it stands in the place of a printed text. -/
namespace Go.Proofs.Ytlbckkagjekhnaa.A
open Go.RowKit Go.Proofs.YtlbckkagjekhnaaW.PrintWords Go.Proofs.YtlbckkagjekhnaaW.PrintLast Go.Proofs.YtlbckkagjekhnaaW.PrintMore
set_option linter.unusedVariables false
set_option linter.unusedSimpArgs false
theorem Sp.cbCells {w0 w : World} {rs : List Res} {i base n c : Nat} {ad : Addr} {xs : List Cb} (h : Sp w0 rs w) (hi : rs[i]? = some (Res.row kC 69 base (.slice (some ad) n c) xs)) (k : Nat) (hk : k < xs.length) :
    w.cell? (ad.add (k * 3)) = some (.int .i64 (cAt xs k).f0) ∧ w.cell? ⟨(ad.add (k * 3)).block, (ad.add (k * 3)).off + 1, none⟩ = some (.int .i64 (cAt xs k).f1) ∧ w.cell? ⟨(ad.add (k * 3)).block, (ad.add (k * 3)).off + 2, none⟩ = some (.int .i64 (cAt xs k).f2) := by
 (obtain ⟨ad2, e, h0, h1, h2⟩ := at_T69 (Sp.reads h hi).2.2 (k : Int) (by omega) (by omega)); (injection e with e); subst e; (exact ⟨h0, h1, h2⟩)
def spec_l09Connected.f (k : Nat) (l : List Cb) : Option Bool := if 1 ≤ l.length ∧ l.length ≤ 1048576 then some (conP l) else none
theorem sindex_at (l : List Cb) (x : Cb) (h : l.length ≤ 1048576) : ∃ (K : Nat) (r : Int), decide (r ≥ 0) = l.contains x ∧ spec_l09Index.f K l x.f0 x.f1 x.f2 = some r := by
 (obtain ⟨r, h1, h2⟩ := sindex_ev l x h); (obtain ⟨K, hK⟩ := h2.rounds); (exact ⟨K, r, h1, hK⟩)
def conF.T8 : Bool × List (List Nat × List Nat) := (true, [([], []), ([], []), ([0, 1], [0, 1]), ([2], [2]), ([], []), ([], []), ([4, 5], [4, 5]), ([6], [6]), ([3, 7, 4], [3, 7]), ([], []), ([9, 8, 8, 0, 1, 2, 3, 4, 5, 6, 7, 8, 9], [8, 9])])
def conF.B8 : List Nat := [0, 0, 3, 7, 0, 0, 48, 112, 255, 0, 1023]
theorem conF.tab8 : rtab .any (opsOf Try.f77 8) = conF.T8 := by kernel_rfl
theorem conF.bits8 : waitsOk conF.T8.2 conF.B8 = true := by kernel_rfl
set_option maxHeartbeats 4000000 in
set_option maxRecDepth 100000 in
theorem spec_l09Connected.calls (k : Nat) (A0 : Option Addr) (c0 : Nat) (l0 : List Cb) (r : Bool) (w : World) (hr0 : Kd.C k69 w A0 l0.length l0) (hc0 : l0.length ≤ c0) (h : spec_l09Connected.f k l0 = some r) :
    Calls Try.prog 77 #[.slice A0 l0.length c0] w fun e w' => e = .returned (.bool r) ∧ Below w.heap.size w w' := by
 (have hu69 := Try.underlying69); (unfold spec_l09Connected.f at h); (split at h)
 case isFalse => cases h
 (rename_i hz); (have HRR := A0_ (show conP l0 = r from Option.some.inj h)); (have HR0 := A0_ hr0); (have HC0 := A0_ hc0); (have HZ := A0_ hz)
 have HIX := A0_ (fun (l : List Cb) (x : Cb) (hl : l.length ≤ 1048576) => sindex_at l x hl)
 (have HS := A0_ (Sp.start w)); (have HST := A0_ (FitO.start hz.1)); clear hr0 hc0 hz h; (obtain ⟨ad0, e0, hx0, hx1, hx2⟩ := at_T69 HR0.out 0 (by omega) (by have := HZ.out.1; omega)); subst e0; (rw [show rd_T69 l0 0 = cAt l0 0 from rfl] at hx0 hx1 hx2); (rw [show (0 : Int).toNat * 3 = 0 from rfl, Addr.add_zero'] at hx0 hx1 hx2); (have q0 : (0 < l0.length) = True := eq_true (by have := HZ.out.1; omega)); (have q1 : ((0 : Int) < (l0.length : Int)) = True := eq_true (by have := HZ.out.1; omega)); (obtain ⟨cf, hcf⟩ : ∃ cf, cf = cAt l0 0 := ⟨_, rfl⟩); (rw [← hcf] at hx0 hx1 hx2 HST); (have HCF := A0_ hcf); clear hcf; (rw [← HRR.out]); clear HRR; (have HFIN := A0_ (show conP l0 = decide ((bfsO l0 (l0.length + 1 - 0) [cf] 0).length = l0.length) by rw [HCF.out]; rfl)); (go_enter Try.func77, Try.ntmps77)
 go_wp2_with (first
  | ((with_reducible refine gate_dst (N := 10) rfl ?_); refine Kd.R_lit kC _ 69 ?hg (N := 10) ?hd (xs := [cf]) (inner := [.int .i64 cf.f0, .int .i64 cf.f1, .int .i64 cf.f2]) (ok := fun _ => True) (okp := fun _ => True) ?hr ?hp (fun _ hk => hk) trivial (Below.refl _ _) (Nat.le_refl _) (by simp) ?_; (case hd => rfl); (case hg => rfl); (case hr => first | (go_simp; done) | (go_simp; rfl)); (case hp => exact (Reps.c3 (show Kd.M kC _ _ _ cf [.int .i64 cf.f0, .int .i64 cf.f1, .int .i64 cf.f2] from k69_mkM _ _ _ cf) (Reps.none _ _))); intro vl_ wl_ ho_ hb_ hg_ hn_; clear hg_ hn_; have HS_ := A0_ (Sp.made' HS.out hb_ ho_); clear HS; have HS := HS_; clear HS_; clear ho_ hb_; obtain ⟨Al, cl, ev_⟩ := Sp.slice HS.out (i := 0) rfl; subst ev_; clear hx0 hx1 hx2))
 go_loopg [3, 4] (l0.length + 2) (fun kq v3 v4 w' => ∃ (k : Nat) (o : List Cb) (A : Option Addr) (ca : Nat), v4 = .int .i64 (k : Int) ∧ v3 = .slice A o.length ca ∧ Aside0 (k ≤ o.length ∧ FitO l0 o ∧ kq + k = l0.length + 2) ∧ Aside0 (conP l0 = decide ((bfsO l0 (l0.length + 1 - k) o k).length = l0.length)) ∧ Aside0 (Sp w ([Res.row kC 69 w.heap.size (.slice A o.length ca) o]) w'))
 case atStart => exact ⟨0, [cf], Al, cl, rfl, rfl, ⟨by simp, HST.out, by omega⟩, HFIN, HS⟩
 case round =>
  clear HS HFIN HST; (obtain ⟨k, o, A, ca, rfl, rfl, HX, HFIN, HS⟩ := hrel); (obtain ⟨k1, rfl⟩ : ∃ k1, gk = k1 + 1 := ⟨gk - 1, by have := HX.out; have := HX.out.2.1.len; omega⟩); (by_cases ck : k < o.length)
  ·(have ck0 : decide (k < o.length) = true := decide_eq_true ck); (have HW := A0_ (wrap_succ k (by have := HX.out.2.1.len; have := HZ.out.2; omega))); (have HPR := A0_ (expI_pre l0 o (cAt o k) k ck))
   have HFT := A0_ (fun i hi => FitO.exp HX.out.2.1 (cAt o k) i hi)
   have HNX := A0_ (show bfsO l0 (l0.length + 1 - k) o k = bfsO l0 (l0.length + 1 - (k + 1)) (expI l0 o (cAt o k) 6) (k + 1) by
    (have h1 := HX.out.2.1.len); (rw [show l0.length + 1 - k = (l0.length + 1 - (k + 1)) + 1 from by omega]); (exact if_pos ck))
   (obtain ⟨c, hc⟩ : ∃ c, c = cAt o k := ⟨_, rfl⟩); (rw [← hc] at HPR HFT HNX); clear ck hc; go_wp2
   go_loopg [3, 5] 7 (fun kq v3 v5 w' => ∃ (i : Nat) (A : Option Addr) (ca : Nat), v5 = .int .i64 (i : Int) ∧ v3 = .slice A (expI l0 o c i).length ca ∧ Aside0 (i ≤ 6 ∧ kq + i = 7) ∧ Aside0 (Sp w ([Res.row kC 69 w.heap.size (.slice A (expI l0 o c i).length ca) (expI l0 o c i)]) w'))
   case atStart => exact ⟨0, A, ca, rfl, rfl, ⟨by omega, by omega⟩, HS⟩
   case round =>
    clear HS; (obtain ⟨i, A, ca, rfl, rfl, HY, HS⟩ := hrel); (obtain ⟨k2, rfl⟩ : ∃ k2, gk = k2 + 1 := ⟨gk - 1, by have := HY.out; omega⟩); (by_cases ci : i < 6)
    ·(have ci0 : decide (i < 6) = true := decide_eq_true ci); (have ci1 : (i < 6) = True := eq_true ci); (have ci2 : decide ((i : Int) < 6) = true := decide_eq_true (by omega)); (have ci3 : ((i : Int) < 6) = True := eq_true (by omega)); (have HI6 := A0_ ci); (have HWI := A0_ (wrap_succ i (by omega))); (have HPI := HPR.out i (by omega)); (have HKX := A0_ HPI.1); (have HOA := A0_ HPI.2); (have HFI := A0_ (HFT.out i (by omega))); (have HES := A0_ (expI_succ l0 o c i ci)); (obtain ⟨si, hsi⟩ : ∃ si, si = cAt stepsC i := ⟨_, rfl⟩); (have HSI0 := A0_ hsi.symm); (rw [← hsi] at HES); clear hsi HPI ci; (obtain ⟨x, hx⟩ : ∃ x, x = addC c si := ⟨_, rfl⟩); (have q0 : (0 ≤ (k : Int)) = True := eq_true (by omega)); (have q1 : ((k : Int) < ((expI l0 o c i).length : Int)) = True := eq_true (by have := HKX.out; omega)); (have q2 : (k < (expI l0 o c i).length) = True := eq_true HKX.out); (have q3 : (0 ≤ (i : Int)) = True := eq_true (by omega)); (have q4 : ((i : Int) < ((stepsC).length : Int)) = True := eq_true (by have := HI6.out; rw [show (stepsC).length = 6 from rfl]; omega)); (have q5 : (i < (stepsC).length) = True := eq_true HI6.out)
     obtain ⟨ado, hado⟩ : ∃ ado, A = some ado := by
      (obtain ⟨ad2, e, _⟩ := at_T69 (Sp.reads HS.out (i := 0) rfl).2.2 (k : Int) (by omega) (by have := HKX.out; omega)); (exact ⟨ad2, e⟩)
     subst hado
     (have HS_ := A0_ (show Sp w ([Res.row kC 69 w.heap.size (.slice (some ado) (expI l0 o c i).length ca) (expI l0 o c i)] ++ ([] : List Res)) wr.drew from Sp.drew HS.out)); clear HS; (have HS := HS_); clear HS_; go_wp2
     refine start_ (n := 11) (S := fun w' => w'.cell? (ado.add (k * 3)) = some (.int .i64 c.f0) ∧ w'.cell? ⟨(ado.add (k * 3)).block, (ado.add (k * 3)).off + 1, none⟩ = some (.int .i64 c.f1) ∧ w'.cell? ⟨(ado.add (k * 3)).block, (ado.add (k * 3)).off + 2, none⟩ = some (.int .i64 c.f2)) (ds := []) #[ff,ff,ff,ff,ff,ff,ff,ff,ff,ff,ff] (by kernel_rfl) rfl rfl (⟨((HOA.out ▸ Sp.cbCells HS.out (i := 0) rfl k HKX.out).1), ((HOA.out ▸ Sp.cbCells HS.out (i := 0) rfl k HKX.out).2.1), ((HOA.out ▸ Sp.cbCells HS.out (i := 0) rfl k HKX.out).2.2)⟩) (fun hHeld => ?_)
     refine with_tabW conF.tab8 conF.bits8 (fun HT_ HW_ => ?_)
     (generalize wr.drew = wD at HS hHeld ⊢); (refine on_ 0 (some 21) ?_); (refine on_ 1 (some 22) ?_); (refine on_ 2 (some 23) ?_); (refine tk_ 3 (some 24) ?_); (refine on_ 5 (some 26) ?_)
     refine o2_ 4 9 (some 25) (some 6) (fun K hK => ?_) (fun K hK => ?_)
     ·(refine goes_ Try.func101 (by kernel_rfl) rfl #[] (by rfl) rfl rfl (by (try simp only [List.map_toArray, List.map_cons, List.map_nil]); first | done | rfl | (simp only [List.length_drop, List.length_take]; rfl)) ?_); (refine (spec_l09Steps.calls stepsC _ rfl).mono ?_); (rintro e wA11 ⟨vA11, rfl, ho, hb⟩); (refine ⟨_, rfl, ?_⟩); (have HS_ := A0_ (Sp.made' HS.out hb ho)); clear HS; (have HS := HS_); clear HS_; clear hb ho; (obtain ⟨AA11, cA11, rfl⟩ := Sp.slice HS.out (i := 0) rfl); (obtain ⟨ads, es_, _⟩ := at_T69 (Sp.reads HS.out (i := 0) rfl).2.2 (0 : Int) (by omega) (by decide)); subst es_
      refine hK.out _ _ (⟨((HOA.out ▸ Sp.cbCells HS.out (i := 1) rfl k HKX.out).1), ((HOA.out ▸ Sp.cbCells HS.out (i := 1) rfl k HKX.out).2.1), ((HOA.out ▸ Sp.cbCells HS.out (i := 1) rfl k HKX.out).2.2)⟩) (fun hHeld => ?_)
      clear hK K; (refine nm_ (some 25) ?_); (refine on_ 6 (some 27) ?_)
      refine o2_ 7 9 (some 28) (some 6) (fun K hK => ?_) (fun K hK => ?_)
      ·(obtain ⟨hs0, hs1, hs2⟩ := Sp.cbCells HS.out (i := 0) rfl i HI6.out); (rw [HSI0.out] at hs0 hs1 hs2); (refine event_step (v := .agg #[.int .i64 si.f0, .int .i64 si.f1, .int .i64 si.f2]) (w1 := wA11) (by rfl) (by first | (go_simp; done) | (go_simp; rfl)) ?_); clear hs0 hs1 hs2
       refine hK.out _ _ (⟨((HOA.out ▸ Sp.cbCells HS.out (i := 1) rfl k HKX.out).1), ((HOA.out ▸ Sp.cbCells HS.out (i := 1) rfl k HKX.out).2.1), ((HOA.out ▸ Sp.cbCells HS.out (i := 1) rfl k HKX.out).2.2)⟩) (fun hHeld => ?_)
       clear hK K; (refine nm_ (some 28) ?_)
       refine o2_ 8 9 (some 29) (some 6) (fun K hK => ?_) (fun K hK => ?_)
       ·(refine goes_ Try.func96 (by kernel_rfl) rfl #[.agg #[.int .i64 c.f0, .int .i64 c.f1, .int .i64 c.f2], .agg #[.int .i64 si.f0, .int .i64 si.f1, .int .i64 si.f2]] (by rfl) rfl rfl (by (try simp only [List.map_toArray, List.map_cons, List.map_nil]); first | done | rfl | (simp only [List.length_drop, List.length_take]; rfl)) ?_); (refine (spec_l09Add.calls c.f0 c.f1 c.f2 si.f0 si.f1 si.f2 (addC c si).f0 (addC c si).f1 (addC c si).f2 _ rfl).mono ?_); (rintro e wA12 ⟨rfl, hb⟩); (refine ⟨_, rfl, ?_⟩); (have HS_ := A0_ (Sp.far HS.out hb)); clear HS; (have HS := HS_); clear HS_; clear hb
        refine hK.out _ _ (⟨((HOA.out ▸ Sp.cbCells HS.out (i := 1) rfl k HKX.out).1), ((HOA.out ▸ Sp.cbCells HS.out (i := 1) rfl k HKX.out).2.1), ((HOA.out ▸ Sp.cbCells HS.out (i := 1) rfl k HKX.out).2.2)⟩) (fun hHeld => ?_)
        clear hK K; (refine nm_ (some 29) ?_)
        refine o1_ 9 (some 6) (fun K hK => ?_)
        (refine event_step (v := .pointer (some ⟨wA12.heap.size, 0, none⟩)) (w1 := wA12.alloc (.cells #[.int .i64 0, .int .i64 0, .int .i64 0] 69)) (by rfl) (by first | (go_simp; done) | (go_simp; rfl)) ?_); (obtain ⟨gx, hg_⟩ : ∃ g_, g_ = (wA12).heap.size := ⟨_, rfl⟩); (obtain ⟨wB13, hw_⟩ : ∃ w_, w_ = World.alloc wA12 (.cells #[.int .i64 0, .int .i64 0, .int .i64 0] 69) := ⟨_, rfl⟩); (rw [← hw_, ← hg_]); (have HS_ := A0_ (Sp.box HS.out #[.int .i64 0, .int .i64 0, .int .i64 0] 69)); (rw [← hw_, ← hg_] at HS_); clear HS; (have HS := HS_); clear HS_ hw_ hg_
        refine hK.out _ _ (⟨((HOA.out ▸ Sp.cbCells HS.out (i := 2) rfl k HKX.out).1), ((HOA.out ▸ Sp.cbCells HS.out (i := 2) rfl k HKX.out).2.1), ((HOA.out ▸ Sp.cbCells HS.out (i := 2) rfl k HKX.out).2.2)⟩) (fun hHeld => ?_)
        clear hK K; (refine nm_ (some 6) ?_)
        refine o1_ 10 none (fun K hK => ?_)
        (refine skip_ (w1 := wB13.setCells gx 0 (#[.int .i64 (addC c si).f0, .int .i64 (addC c si).f1, .int .i64 (addC c si).f2] : Array Value).toList) (by rfl) rfl (exec_store (v := .pointer (some ⟨gx, 0, none⟩)) (u := .agg #[.int .i64 (addC c si).f0, .int .i64 (addC c si).f1, .int .i64 (addC c si).f2]) rfl (by first | rfl | (go_simp; done) | (go_simp; rfl)) (by first | rfl | (go_simp; done) | (go_simp; rfl)) (Sp.blkStore HS.out (i := 0) rfl (.agg #[.int .i64 (addC c si).f0, .int .i64 (addC c si).f1, .int .i64 (addC c si).f2]) (#[.int .i64 (addC c si).f0, .int .i64 (addC c si).f1, .int .i64 (addC c si).f2]) rfl rfl (by kernel_rfl) (by first | (simp; done) | (simp [Value.oneCell']; done) | (simp; exact ⟨rfl, rfl, rfl⟩)))) ?_); (obtain ⟨wS14, hw_⟩ : ∃ w_, w_ = wB13.setCells gx 0 (#[.int .i64 (addC c si).f0, .int .i64 (addC c si).f1, .int .i64 (addC c si).f2] : Array Value).toList := ⟨_, rfl⟩); (rw [← hw_]); (have HS_ := A0_ (Sp.blkAll HS.out (i := 0) rfl (#[.int .i64 (addC c si).f0, .int .i64 (addC c si).f1, .int .i64 (addC c si).f2]) rfl)); (rw [← hw_] at HS_); clear HS; (have HS := HS_); clear HS_ hw_
        refine hK.out _ _ (⟨((HOA.out ▸ Sp.cbCells HS.out (i := 2) rfl k HKX.out).1), ((HOA.out ▸ Sp.cbCells HS.out (i := 2) rfl k HKX.out).2.1), ((HOA.out ▸ Sp.cbCells HS.out (i := 2) rfl k HKX.out).2.2)⟩) (fun hHeld => ?_)
        clear hK K; (refine dn_ ?_); (have HS_ := A0_ (Sp.arr (pre := [Res.blk gx #[.int .i64 (addC c si).f0, .int .i64 (addC c si).f1, .int .i64 (addC c si).f2] 69, Res.row kC 69 w.heap.size (.slice (some ads) (stepsC).length cA11) (stepsC), Res.row kC 69 w.heap.size (.slice (some ado) (expI l0 o c i).length ca) (expI l0 o c i)]) (pre' := [Res.blk gx #[.int .i64 (addC c si).f0, .int .i64 (addC c si).f1, .int .i64 (addC c si).f2] 69, Res.row kC 69 w.heap.size (.slice (some ado) (expI l0 o c i).length ca) (expI l0 o c i), Res.row kC 69 w.heap.size (.slice (some ads) (stepsC).length cA11) (stepsC)]) (rest := ([] : List Res)) [0, 2, 1] HS.out rfl rfl)); clear HS; (have HS := HS_); clear HS_; (rw [show addC c si = x from hx.symm] at HS); (have HX6 := A0_ hx); clear hx; (have hx0 := (blk_cell (Sp.blk HS.out (i := 0) rfl).1 0).trans rfl); (have hx1 := (blk_cell (Sp.blk HS.out (i := 0) rfl).1 1).trans rfl); (have hx2 := (blk_cell (Sp.blk HS.out (i := 0) rfl).1 2).trans rfl); (obtain ⟨Ka, ra, ha, hKa⟩ := HIX.out l0 x HZ.out.2); (have HKA := A0_ hKa)
        cases c1 : l0.contains x with
        | false =>
         (rw [c1] at ha); (have n0_ : decide (0 ≤ ra) = false := ha); (have n1_ : (0 ≤ ra) = False := eq_false (of_decide_eq_false ha)); (have HN := A0_ (show expI l0 o c (i + 1) = expI l0 o c i by rw [HES.out, ← HX6.out]; unfold addO; rw [c1, Bool.false_and, if_neg (by simp)])); clear c1 ha
         go_wp2_with (first
          | (go_at_call 102; refine (spec_l09Index.calls Ka (some ad0) c0 l0 x.f0 x.f1 x.f2 ra _ (Kd.C_below HR0.out HS.out.below) HC0.out HKA.out).mono ?_; rintro e wc_ ⟨rfl, hd_⟩; have HS_ := A0_ (Sp.far HS.out hd_); clear HS; have HS := HS_; clear HS_; clear hd_ hx0 hx1 hx2 HKA; have hx0 := (blk_cell (Sp.blk HS.out (i := 0) rfl).1 0).trans rfl; have hx1 := (blk_cell (Sp.blk HS.out (i := 0) rfl).1 1).trans rfl; have hx2 := (blk_cell (Sp.blk HS.out (i := 0) rfl).1 2).trans rfl))
         (have HS_ := A0_ (show Sp w [Res.row kC 69 w.heap.size (.slice (some ado) (expI l0 o c i).length ca) (expI l0 o c i)] _ from Sp.tail (Sp.out HS.out 2))); clear HS; (have HS := HS_); clear HS_; (go_roundg k2)
         case measure => omega
         case rel =>
          (rw [HWI.out]); (exact ⟨i + 1, some ado, ca, rfl, by rw [HN.out], ⟨by have := HI6.out; omega, by have := HY.out; omega⟩, ⟨by rw [HN.out]; exact HS.out⟩⟩)
        | true =>
         (rw [c1] at ha); (have n0_ : decide (0 ≤ ra) = true := ha); (have n1_ : (0 ≤ ra) = True := eq_true (of_decide_eq_true ha)); (obtain ⟨Kb, rb, hb, hKb⟩ := HIX.out (expI l0 o c i) x (by have := HFI.out.len; have := HZ.out.2; omega)); (have HKB := A0_ hKb); clear ha hKb
         cases c2 : (expI l0 o c i).contains x with
         | true =>
          (rw [c2] at hb); (have m0_ : decide (rb < 0) = false := decide_eq_false (by have := of_decide_eq_true hb; omega)); (have m1_ : (rb < 0) = False := eq_false (by have := of_decide_eq_true hb; omega)); (have HN := A0_ (show expI l0 o c (i + 1) = expI l0 o c i by rw [HES.out, ← HX6.out]; unfold addO; rw [c1, c2, Bool.not_true, Bool.and_false, if_neg (by simp)])); clear c1 c2 hb
          go_wp2_with (first
           | (go_at_call 102; refine (spec_l09Index.calls Ka (some ad0) c0 l0 x.f0 x.f1 x.f2 ra _ (Kd.C_below HR0.out HS.out.below) HC0.out HKA.out).mono ?_; rintro e wc_ ⟨rfl, hd_⟩; have HS_ := A0_ (Sp.far HS.out hd_); clear HS; have HS := HS_; clear HS_; clear hd_ hx0 hx1 hx2 HKA; have hx0 := (blk_cell (Sp.blk HS.out (i := 0) rfl).1 0).trans rfl; have hx1 := (blk_cell (Sp.blk HS.out (i := 0) rfl).1 1).trans rfl; have hx2 := (blk_cell (Sp.blk HS.out (i := 0) rfl).1 2).trans rfl)
           | (go_at_call 102; refine (spec_l09Index.calls Kb (some ado) ca (expI l0 o c i) x.f0 x.f1 x.f2 rb _ (Sp.reads HS.out (i := 1) rfl).2.2 (Sp.reads HS.out (i := 1) rfl).2.1 HKB.out).mono ?_; rintro e wc_ ⟨rfl, hd_⟩; have HS_ := A0_ (Sp.far HS.out hd_); clear HS; have HS := HS_; clear HS_; clear hd_ hx0 hx1 hx2 HKB; have hx0 := (blk_cell (Sp.blk HS.out (i := 0) rfl).1 0).trans rfl; have hx1 := (blk_cell (Sp.blk HS.out (i := 0) rfl).1 1).trans rfl; have hx2 := (blk_cell (Sp.blk HS.out (i := 0) rfl).1 2).trans rfl))
          (have HS_ := A0_ (show Sp w [Res.row kC 69 w.heap.size (.slice (some ado) (expI l0 o c i).length ca) (expI l0 o c i)] _ from Sp.tail (Sp.out HS.out 2))); clear HS; (have HS := HS_); clear HS_; (go_roundg k2)
          case measure => omega
          case rel =>
           (rw [HWI.out]); (exact ⟨i + 1, some ado, ca, rfl, by rw [HN.out], ⟨by have := HI6.out; omega, by have := HY.out; omega⟩, ⟨by rw [HN.out]; exact HS.out⟩⟩)
         | false =>
          (rw [c2] at hb); (have m0_ : decide (rb < 0) = true := decide_eq_true (by have := of_decide_eq_false hb; omega)); (have m1_ : (rb < 0) = True := eq_true (by have := of_decide_eq_false hb; omega)); (have HN := A0_ (show expI l0 o c (i + 1) = expI l0 o c i ++ [x] by rw [HES.out, ← HX6.out]; unfold addO; rw [c1, c2, Bool.not_false, Bool.and_true, if_pos rfl])); clear c1 c2 hb; (have HS_ := A0_ (show Sp w [Res.blk gx #[.int .i64 x.f0, .int .i64 x.f1, .int .i64 x.f2] 69, Res.row kC 69 w.heap.size (.slice (some ado) (expI l0 o c i).length ca) (expI l0 o c i)] _ from Sp.out HS.out 2)); clear HS; (have HS := HS_); clear HS_
          go_wp2_with (first
           | (go_at_call 102; refine (spec_l09Index.calls Ka (some ad0) c0 l0 x.f0 x.f1 x.f2 ra _ (Kd.C_below HR0.out HS.out.below) HC0.out HKA.out).mono ?_; rintro e wc_ ⟨rfl, hd_⟩; have HS_ := A0_ (Sp.far HS.out hd_); clear HS; have HS := HS_; clear HS_; clear hd_ hx0 hx1 hx2 HKA; have hx0 := (blk_cell (Sp.blk HS.out (i := 0) rfl).1 0).trans rfl; have hx1 := (blk_cell (Sp.blk HS.out (i := 0) rfl).1 1).trans rfl; have hx2 := (blk_cell (Sp.blk HS.out (i := 0) rfl).1 2).trans rfl)
           | (go_at_call 102; refine (spec_l09Index.calls Kb (some ado) ca (expI l0 o c i) x.f0 x.f1 x.f2 rb _ (Sp.reads HS.out (i := 1) rfl).2.2 (Sp.reads HS.out (i := 1) rfl).2.1 HKB.out).mono ?_; rintro e wc_ ⟨rfl, hd_⟩; have HS_ := A0_ (Sp.far HS.out hd_); clear HS; have HS := HS_; clear HS_; clear hd_ hx0 hx1 hx2 HKB; have hx0 := (blk_cell (Sp.blk HS.out (i := 0) rfl).1 0).trans rfl; have hx1 := (blk_cell (Sp.blk HS.out (i := 0) rfl).1 1).trans rfl; have hx2 := (blk_cell (Sp.blk HS.out (i := 0) rfl).1 2).trans rfl)
           | ((with_reducible refine gate_dst (N := 42) rfl ?_); refine Kd.R_lit kC _ 69 ?hg (N := 42) ?hd (xs := [x]) (inner := [.int .i64 x.f0, .int .i64 x.f1, .int .i64 x.f2]) (ok := fun _ => True) (okp := fun _ => True) ?hr ?hp (fun _ hk => hk) trivial (Below.refl _ _) (Nat.le_refl _) (by simp) ?_; (case hd => rfl); (case hg => rfl); (case hr => first | (go_simp; done) | (go_simp; rfl)); (case hp => exact (Reps.c3 (show Kd.M kC _ _ _ x [.int .i64 x.f0, .int .i64 x.f1, .int .i64 x.f2] from k69_mkM _ _ _ x) (Reps.none _ _))); intro vl_ wl_ ho_ hb_ hg_ hn_; clear hg_ hn_; have HS_ := A0_ (Sp.made' HS.out hb_ ho_); clear HS; have HS := HS_; clear HS_; clear ho_ hb_; obtain ⟨Ax, cx, ev_⟩ := Sp.slice HS.out (i := 0) rfl; subst ev_; clear hx0 hx1 hx2)
           | ((with_reducible refine gate_builtin (b := .append) (xs := #[.tmp 40, .tmp 42]) rfl ?_); at_builtin; obtain ⟨fp_, ho_, hf_, hc_⟩ := Sp.row HS.out (i := 2) rfl; refine Kd.R_append_rows kC (w0 := w) w.heap.size rfl (.tmp 40) (.tmp 42) 34 69 ((.agg #[(.int .i64 0), (.int .i64 0), (.int .i64 0)])) 24 rfl Try.underlying34 info69 rfl (by decide) (by omega) (.slice (some ado) (expI l0 o c i).length ca) (expI l0 o c i) ([x]) _ _ _ _ (fun _ => False) rfl rfl ho_ ((Sp.reads HS.out (i := 0) rfl).2.2) (fun _ _ h => h) (fun _ h => h.elim) (fun _ h => Or.inr h) HS.out.below HS.out.below.size ?aL ?_; (case aL => have := HFI.out.len; have := HZ.out.2; simp only [List.length_cons, List.length_nil]; omega); intro va_ wa_ ho hb hg hat; have HS_ := A0_ (hc_ _ _ _ ho hg); clear HS; have HS := HS_; clear HS_; clear ho hb hg hat hc_ hf_ ho_ fp_; obtain ⟨A2, c2_, ev_⟩ := Sp.slice HS.out (i := 2) rfl; subst ev_; rw [← HN.out] at HS))
          (have HS_ := A0_ (show Sp w [Res.row kC 69 w.heap.size (.slice A2 (expI l0 o c (i + 1)).length c2_) (expI l0 o c (i + 1))] _ from Sp.tail (Sp.tail HS.out))); clear HS; (have HS := HS_); clear HS_; (go_roundg k2)
          case measure => omega
          case rel =>
           (rw [HWI.out]); (exact ⟨i + 1, A2, c2_, rfl, by rw [HN.out, List.length_append]; rfl, ⟨by have := HI6.out; omega, by have := HY.out; omega⟩, HS⟩)
       ·(refine event_step (v := .pointer (some ⟨wA11.heap.size, 0, none⟩)) (w1 := wA11.alloc (.cells #[.int .i64 0, .int .i64 0, .int .i64 0] 69)) (by rfl) (by first | (go_simp; done) | (go_simp; rfl)) ?_); (obtain ⟨gx, hg_⟩ : ∃ g_, g_ = (wA11).heap.size := ⟨_, rfl⟩); (obtain ⟨wB12, hw_⟩ : ∃ w_, w_ = World.alloc wA11 (.cells #[.int .i64 0, .int .i64 0, .int .i64 0] 69) := ⟨_, rfl⟩); (rw [← hw_, ← hg_]); (have HS_ := A0_ (Sp.box HS.out #[.int .i64 0, .int .i64 0, .int .i64 0] 69)); (rw [← hw_, ← hg_] at HS_); clear HS; (have HS := HS_); clear HS_ hw_ hg_
        refine hK.out _ _ (⟨((HOA.out ▸ Sp.cbCells HS.out (i := 2) rfl k HKX.out).1), ((HOA.out ▸ Sp.cbCells HS.out (i := 2) rfl k HKX.out).2.1), ((HOA.out ▸ Sp.cbCells HS.out (i := 2) rfl k HKX.out).2.2)⟩) (fun hHeld => ?_)
        clear hK K; (refine nm_ (some 6) ?_)
        refine o1_ 8 (some 29) (fun K hK => ?_)
        (refine goes_ Try.func96 (by kernel_rfl) rfl #[.agg #[.int .i64 c.f0, .int .i64 c.f1, .int .i64 c.f2], .agg #[.int .i64 si.f0, .int .i64 si.f1, .int .i64 si.f2]] (by rfl) rfl rfl (by (try simp only [List.map_toArray, List.map_cons, List.map_nil]); first | done | rfl | (simp only [List.length_drop, List.length_take]; rfl)) ?_); (refine (spec_l09Add.calls c.f0 c.f1 c.f2 si.f0 si.f1 si.f2 (addC c si).f0 (addC c si).f1 (addC c si).f2 _ rfl).mono ?_); (rintro e wA13 ⟨rfl, hb⟩); (refine ⟨_, rfl, ?_⟩); (have HS_ := A0_ (Sp.far HS.out hb)); clear HS; (have HS := HS_); clear HS_; clear hb
        refine hK.out _ _ (⟨((HOA.out ▸ Sp.cbCells HS.out (i := 2) rfl k HKX.out).1), ((HOA.out ▸ Sp.cbCells HS.out (i := 2) rfl k HKX.out).2.1), ((HOA.out ▸ Sp.cbCells HS.out (i := 2) rfl k HKX.out).2.2)⟩) (fun hHeld => ?_)
        clear hK K; (refine nm_ (some 29) ?_)
        refine o1_ 10 none (fun K hK => ?_)
        (refine skip_ (w1 := wA13.setCells gx 0 (#[.int .i64 (addC c si).f0, .int .i64 (addC c si).f1, .int .i64 (addC c si).f2] : Array Value).toList) (by rfl) rfl (exec_store (v := .pointer (some ⟨gx, 0, none⟩)) (u := .agg #[.int .i64 (addC c si).f0, .int .i64 (addC c si).f1, .int .i64 (addC c si).f2]) rfl (by first | rfl | (go_simp; done) | (go_simp; rfl)) (by first | rfl | (go_simp; done) | (go_simp; rfl)) (Sp.blkStore HS.out (i := 0) rfl (.agg #[.int .i64 (addC c si).f0, .int .i64 (addC c si).f1, .int .i64 (addC c si).f2]) (#[.int .i64 (addC c si).f0, .int .i64 (addC c si).f1, .int .i64 (addC c si).f2]) rfl rfl (by kernel_rfl) (by first | (simp; done) | (simp [Value.oneCell']; done) | (simp; exact ⟨rfl, rfl, rfl⟩)))) ?_); (obtain ⟨wS14, hw_⟩ : ∃ w_, w_ = wA13.setCells gx 0 (#[.int .i64 (addC c si).f0, .int .i64 (addC c si).f1, .int .i64 (addC c si).f2] : Array Value).toList := ⟨_, rfl⟩); (rw [← hw_]); (have HS_ := A0_ (Sp.blkAll HS.out (i := 0) rfl (#[.int .i64 (addC c si).f0, .int .i64 (addC c si).f1, .int .i64 (addC c si).f2]) rfl)); (rw [← hw_] at HS_); clear HS; (have HS := HS_); clear HS_ hw_
        refine hK.out _ _ (⟨((HOA.out ▸ Sp.cbCells HS.out (i := 2) rfl k HKX.out).1), ((HOA.out ▸ Sp.cbCells HS.out (i := 2) rfl k HKX.out).2.1), ((HOA.out ▸ Sp.cbCells HS.out (i := 2) rfl k HKX.out).2.2)⟩) (fun hHeld => ?_)
        clear hK K; (refine dn_ ?_); (have HS_ := A0_ (Sp.arr (pre := [Res.blk gx #[.int .i64 (addC c si).f0, .int .i64 (addC c si).f1, .int .i64 (addC c si).f2] 69, Res.row kC 69 w.heap.size (.slice (some ads) (stepsC).length cA11) (stepsC), Res.row kC 69 w.heap.size (.slice (some ado) (expI l0 o c i).length ca) (expI l0 o c i)]) (pre' := [Res.blk gx #[.int .i64 (addC c si).f0, .int .i64 (addC c si).f1, .int .i64 (addC c si).f2] 69, Res.row kC 69 w.heap.size (.slice (some ado) (expI l0 o c i).length ca) (expI l0 o c i), Res.row kC 69 w.heap.size (.slice (some ads) (stepsC).length cA11) (stepsC)]) (rest := ([] : List Res)) [0, 2, 1] HS.out rfl rfl)); clear HS; (have HS := HS_); clear HS_; (rw [show addC c si = x from hx.symm] at HS); (have HX6 := A0_ hx); clear hx; (have hx0 := (blk_cell (Sp.blk HS.out (i := 0) rfl).1 0).trans rfl); (have hx1 := (blk_cell (Sp.blk HS.out (i := 0) rfl).1 1).trans rfl); (have hx2 := (blk_cell (Sp.blk HS.out (i := 0) rfl).1 2).trans rfl); (obtain ⟨Ka, ra, ha, hKa⟩ := HIX.out l0 x HZ.out.2); (have HKA := A0_ hKa)
        cases c1 : l0.contains x with
        | false =>
         (rw [c1] at ha); (have n0_ : decide (0 ≤ ra) = false := ha); (have n1_ : (0 ≤ ra) = False := eq_false (of_decide_eq_false ha)); (have HN := A0_ (show expI l0 o c (i + 1) = expI l0 o c i by rw [HES.out, ← HX6.out]; unfold addO; rw [c1, Bool.false_and, if_neg (by simp)])); clear c1 ha
         go_wp2_with (first
          | (go_at_call 102; refine (spec_l09Index.calls Ka (some ad0) c0 l0 x.f0 x.f1 x.f2 ra _ (Kd.C_below HR0.out HS.out.below) HC0.out HKA.out).mono ?_; rintro e wc_ ⟨rfl, hd_⟩; have HS_ := A0_ (Sp.far HS.out hd_); clear HS; have HS := HS_; clear HS_; clear hd_ hx0 hx1 hx2 HKA; have hx0 := (blk_cell (Sp.blk HS.out (i := 0) rfl).1 0).trans rfl; have hx1 := (blk_cell (Sp.blk HS.out (i := 0) rfl).1 1).trans rfl; have hx2 := (blk_cell (Sp.blk HS.out (i := 0) rfl).1 2).trans rfl))
         (have HS_ := A0_ (show Sp w [Res.row kC 69 w.heap.size (.slice (some ado) (expI l0 o c i).length ca) (expI l0 o c i)] _ from Sp.tail (Sp.out HS.out 2))); clear HS; (have HS := HS_); clear HS_; (go_roundg k2)
         case measure => omega
         case rel =>
          (rw [HWI.out]); (exact ⟨i + 1, some ado, ca, rfl, by rw [HN.out], ⟨by have := HI6.out; omega, by have := HY.out; omega⟩, ⟨by rw [HN.out]; exact HS.out⟩⟩)
        | true =>
         (rw [c1] at ha); (have n0_ : decide (0 ≤ ra) = true := ha); (have n1_ : (0 ≤ ra) = True := eq_true (of_decide_eq_true ha)); (obtain ⟨Kb, rb, hb, hKb⟩ := HIX.out (expI l0 o c i) x (by have := HFI.out.len; have := HZ.out.2; omega)); (have HKB := A0_ hKb); clear ha hKb
         cases c2 : (expI l0 o c i).contains x with
         | true =>
          (rw [c2] at hb); (have m0_ : decide (rb < 0) = false := decide_eq_false (by have := of_decide_eq_true hb; omega)); (have m1_ : (rb < 0) = False := eq_false (by have := of_decide_eq_true hb; omega)); (have HN := A0_ (show expI l0 o c (i + 1) = expI l0 o c i by rw [HES.out, ← HX6.out]; unfold addO; rw [c1, c2, Bool.not_true, Bool.and_false, if_neg (by simp)])); clear c1 c2 hb
          go_wp2_with (first
           | (go_at_call 102; refine (spec_l09Index.calls Ka (some ad0) c0 l0 x.f0 x.f1 x.f2 ra _ (Kd.C_below HR0.out HS.out.below) HC0.out HKA.out).mono ?_; rintro e wc_ ⟨rfl, hd_⟩; have HS_ := A0_ (Sp.far HS.out hd_); clear HS; have HS := HS_; clear HS_; clear hd_ hx0 hx1 hx2 HKA; have hx0 := (blk_cell (Sp.blk HS.out (i := 0) rfl).1 0).trans rfl; have hx1 := (blk_cell (Sp.blk HS.out (i := 0) rfl).1 1).trans rfl; have hx2 := (blk_cell (Sp.blk HS.out (i := 0) rfl).1 2).trans rfl)
           | (go_at_call 102; refine (spec_l09Index.calls Kb (some ado) ca (expI l0 o c i) x.f0 x.f1 x.f2 rb _ (Sp.reads HS.out (i := 1) rfl).2.2 (Sp.reads HS.out (i := 1) rfl).2.1 HKB.out).mono ?_; rintro e wc_ ⟨rfl, hd_⟩; have HS_ := A0_ (Sp.far HS.out hd_); clear HS; have HS := HS_; clear HS_; clear hd_ hx0 hx1 hx2 HKB; have hx0 := (blk_cell (Sp.blk HS.out (i := 0) rfl).1 0).trans rfl; have hx1 := (blk_cell (Sp.blk HS.out (i := 0) rfl).1 1).trans rfl; have hx2 := (blk_cell (Sp.blk HS.out (i := 0) rfl).1 2).trans rfl))
          (have HS_ := A0_ (show Sp w [Res.row kC 69 w.heap.size (.slice (some ado) (expI l0 o c i).length ca) (expI l0 o c i)] _ from Sp.tail (Sp.out HS.out 2))); clear HS; (have HS := HS_); clear HS_; (go_roundg k2)
          case measure => omega
          case rel =>
           (rw [HWI.out]); (exact ⟨i + 1, some ado, ca, rfl, by rw [HN.out], ⟨by have := HI6.out; omega, by have := HY.out; omega⟩, ⟨by rw [HN.out]; exact HS.out⟩⟩)
         | false =>
          (rw [c2] at hb); (have m0_ : decide (rb < 0) = true := decide_eq_true (by have := of_decide_eq_false hb; omega)); (have m1_ : (rb < 0) = True := eq_true (by have := of_decide_eq_false hb; omega)); (have HN := A0_ (show expI l0 o c (i + 1) = expI l0 o c i ++ [x] by rw [HES.out, ← HX6.out]; unfold addO; rw [c1, c2, Bool.not_false, Bool.and_true, if_pos rfl])); clear c1 c2 hb; (have HS_ := A0_ (show Sp w [Res.blk gx #[.int .i64 x.f0, .int .i64 x.f1, .int .i64 x.f2] 69, Res.row kC 69 w.heap.size (.slice (some ado) (expI l0 o c i).length ca) (expI l0 o c i)] _ from Sp.out HS.out 2)); clear HS; (have HS := HS_); clear HS_
          go_wp2_with (first
           | (go_at_call 102; refine (spec_l09Index.calls Ka (some ad0) c0 l0 x.f0 x.f1 x.f2 ra _ (Kd.C_below HR0.out HS.out.below) HC0.out HKA.out).mono ?_; rintro e wc_ ⟨rfl, hd_⟩; have HS_ := A0_ (Sp.far HS.out hd_); clear HS; have HS := HS_; clear HS_; clear hd_ hx0 hx1 hx2 HKA; have hx0 := (blk_cell (Sp.blk HS.out (i := 0) rfl).1 0).trans rfl; have hx1 := (blk_cell (Sp.blk HS.out (i := 0) rfl).1 1).trans rfl; have hx2 := (blk_cell (Sp.blk HS.out (i := 0) rfl).1 2).trans rfl)
           | (go_at_call 102; refine (spec_l09Index.calls Kb (some ado) ca (expI l0 o c i) x.f0 x.f1 x.f2 rb _ (Sp.reads HS.out (i := 1) rfl).2.2 (Sp.reads HS.out (i := 1) rfl).2.1 HKB.out).mono ?_; rintro e wc_ ⟨rfl, hd_⟩; have HS_ := A0_ (Sp.far HS.out hd_); clear HS; have HS := HS_; clear HS_; clear hd_ hx0 hx1 hx2 HKB; have hx0 := (blk_cell (Sp.blk HS.out (i := 0) rfl).1 0).trans rfl; have hx1 := (blk_cell (Sp.blk HS.out (i := 0) rfl).1 1).trans rfl; have hx2 := (blk_cell (Sp.blk HS.out (i := 0) rfl).1 2).trans rfl)
           | ((with_reducible refine gate_dst (N := 42) rfl ?_); refine Kd.R_lit kC _ 69 ?hg (N := 42) ?hd (xs := [x]) (inner := [.int .i64 x.f0, .int .i64 x.f1, .int .i64 x.f2]) (ok := fun _ => True) (okp := fun _ => True) ?hr ?hp (fun _ hk => hk) trivial (Below.refl _ _) (Nat.le_refl _) (by simp) ?_; (case hd => rfl); (case hg => rfl); (case hr => first | (go_simp; done) | (go_simp; rfl)); (case hp => exact (Reps.c3 (show Kd.M kC _ _ _ x [.int .i64 x.f0, .int .i64 x.f1, .int .i64 x.f2] from k69_mkM _ _ _ x) (Reps.none _ _))); intro vl_ wl_ ho_ hb_ hg_ hn_; clear hg_ hn_; have HS_ := A0_ (Sp.made' HS.out hb_ ho_); clear HS; have HS := HS_; clear HS_; clear ho_ hb_; obtain ⟨Ax, cx, ev_⟩ := Sp.slice HS.out (i := 0) rfl; subst ev_; clear hx0 hx1 hx2)
           | ((with_reducible refine gate_builtin (b := .append) (xs := #[.tmp 40, .tmp 42]) rfl ?_); at_builtin; obtain ⟨fp_, ho_, hf_, hc_⟩ := Sp.row HS.out (i := 2) rfl; refine Kd.R_append_rows kC (w0 := w) w.heap.size rfl (.tmp 40) (.tmp 42) 34 69 ((.agg #[(.int .i64 0), (.int .i64 0), (.int .i64 0)])) 24 rfl Try.underlying34 info69 rfl (by decide) (by omega) (.slice (some ado) (expI l0 o c i).length ca) (expI l0 o c i) ([x]) _ _ _ _ (fun _ => False) rfl rfl ho_ ((Sp.reads HS.out (i := 0) rfl).2.2) (fun _ _ h => h) (fun _ h => h.elim) (fun _ h => Or.inr h) HS.out.below HS.out.below.size ?aL ?_; (case aL => have := HFI.out.len; have := HZ.out.2; simp only [List.length_cons, List.length_nil]; omega); intro va_ wa_ ho hb hg hat; have HS_ := A0_ (hc_ _ _ _ ho hg); clear HS; have HS := HS_; clear HS_; clear ho hb hg hat hc_ hf_ ho_ fp_; obtain ⟨A2, c2_, ev_⟩ := Sp.slice HS.out (i := 2) rfl; subst ev_; rw [← HN.out] at HS))
          (have HS_ := A0_ (show Sp w [Res.row kC 69 w.heap.size (.slice A2 (expI l0 o c (i + 1)).length c2_) (expI l0 o c (i + 1))] _ from Sp.tail (Sp.tail HS.out))); clear HS; (have HS := HS_); clear HS_; (go_roundg k2)
          case measure => omega
          case rel =>
           (rw [HWI.out]); (exact ⟨i + 1, A2, c2_, rfl, by rw [HN.out, List.length_append]; rfl, ⟨by have := HI6.out; omega, by have := HY.out; omega⟩, HS⟩)
      ·(refine event_step (v := .pointer (some ⟨wA11.heap.size, 0, none⟩)) (w1 := wA11.alloc (.cells #[.int .i64 0, .int .i64 0, .int .i64 0] 69)) (by rfl) (by first | (go_simp; done) | (go_simp; rfl)) ?_); (obtain ⟨gx, hg_⟩ : ∃ g_, g_ = (wA11).heap.size := ⟨_, rfl⟩); (obtain ⟨wB12, hw_⟩ : ∃ w_, w_ = World.alloc wA11 (.cells #[.int .i64 0, .int .i64 0, .int .i64 0] 69) := ⟨_, rfl⟩); (rw [← hw_, ← hg_]); (have HS_ := A0_ (Sp.box HS.out #[.int .i64 0, .int .i64 0, .int .i64 0] 69)); (rw [← hw_, ← hg_] at HS_); clear HS; (have HS := HS_); clear HS_ hw_ hg_
       refine hK.out _ _ (⟨((HOA.out ▸ Sp.cbCells HS.out (i := 2) rfl k HKX.out).1), ((HOA.out ▸ Sp.cbCells HS.out (i := 2) rfl k HKX.out).2.1), ((HOA.out ▸ Sp.cbCells HS.out (i := 2) rfl k HKX.out).2.2)⟩) (fun hHeld => ?_)
       clear hK K; (refine nm_ (some 6) ?_)
       refine o1_ 7 (some 28) (fun K hK => ?_)
       (obtain ⟨hs0, hs1, hs2⟩ := Sp.cbCells HS.out (i := 1) rfl i HI6.out); (rw [HSI0.out] at hs0 hs1 hs2); (refine event_step (v := .agg #[.int .i64 si.f0, .int .i64 si.f1, .int .i64 si.f2]) (w1 := wB12) (by rfl) (by first | (go_simp; done) | (go_simp; rfl)) ?_); clear hs0 hs1 hs2
       refine hK.out _ _ (⟨((HOA.out ▸ Sp.cbCells HS.out (i := 2) rfl k HKX.out).1), ((HOA.out ▸ Sp.cbCells HS.out (i := 2) rfl k HKX.out).2.1), ((HOA.out ▸ Sp.cbCells HS.out (i := 2) rfl k HKX.out).2.2)⟩) (fun hHeld => ?_)
       clear hK K; (refine nm_ (some 28) ?_)
       refine o1_ 8 (some 29) (fun K hK => ?_)
       (refine goes_ Try.func96 (by kernel_rfl) rfl #[.agg #[.int .i64 c.f0, .int .i64 c.f1, .int .i64 c.f2], .agg #[.int .i64 si.f0, .int .i64 si.f1, .int .i64 si.f2]] (by rfl) rfl rfl (by (try simp only [List.map_toArray, List.map_cons, List.map_nil]); first | done | rfl | (simp only [List.length_drop, List.length_take]; rfl)) ?_); (refine (spec_l09Add.calls c.f0 c.f1 c.f2 si.f0 si.f1 si.f2 (addC c si).f0 (addC c si).f1 (addC c si).f2 _ rfl).mono ?_); (rintro e wA13 ⟨rfl, hb⟩); (refine ⟨_, rfl, ?_⟩); (have HS_ := A0_ (Sp.far HS.out hb)); clear HS; (have HS := HS_); clear HS_; clear hb
       refine hK.out _ _ (⟨((HOA.out ▸ Sp.cbCells HS.out (i := 2) rfl k HKX.out).1), ((HOA.out ▸ Sp.cbCells HS.out (i := 2) rfl k HKX.out).2.1), ((HOA.out ▸ Sp.cbCells HS.out (i := 2) rfl k HKX.out).2.2)⟩) (fun hHeld => ?_)
       clear hK K; (refine nm_ (some 29) ?_)
       refine o1_ 10 none (fun K hK => ?_)
       (refine skip_ (w1 := wA13.setCells gx 0 (#[.int .i64 (addC c si).f0, .int .i64 (addC c si).f1, .int .i64 (addC c si).f2] : Array Value).toList) (by rfl) rfl (exec_store (v := .pointer (some ⟨gx, 0, none⟩)) (u := .agg #[.int .i64 (addC c si).f0, .int .i64 (addC c si).f1, .int .i64 (addC c si).f2]) rfl (by first | rfl | (go_simp; done) | (go_simp; rfl)) (by first | rfl | (go_simp; done) | (go_simp; rfl)) (Sp.blkStore HS.out (i := 0) rfl (.agg #[.int .i64 (addC c si).f0, .int .i64 (addC c si).f1, .int .i64 (addC c si).f2]) (#[.int .i64 (addC c si).f0, .int .i64 (addC c si).f1, .int .i64 (addC c si).f2]) rfl rfl (by kernel_rfl) (by first | (simp; done) | (simp [Value.oneCell']; done) | (simp; exact ⟨rfl, rfl, rfl⟩)))) ?_); (obtain ⟨wS14, hw_⟩ : ∃ w_, w_ = wA13.setCells gx 0 (#[.int .i64 (addC c si).f0, .int .i64 (addC c si).f1, .int .i64 (addC c si).f2] : Array Value).toList := ⟨_, rfl⟩); (rw [← hw_]); (have HS_ := A0_ (Sp.blkAll HS.out (i := 0) rfl (#[.int .i64 (addC c si).f0, .int .i64 (addC c si).f1, .int .i64 (addC c si).f2]) rfl)); (rw [← hw_] at HS_); clear HS; (have HS := HS_); clear HS_ hw_
       refine hK.out _ _ (⟨((HOA.out ▸ Sp.cbCells HS.out (i := 2) rfl k HKX.out).1), ((HOA.out ▸ Sp.cbCells HS.out (i := 2) rfl k HKX.out).2.1), ((HOA.out ▸ Sp.cbCells HS.out (i := 2) rfl k HKX.out).2.2)⟩) (fun hHeld => ?_)
       clear hK K; (refine dn_ ?_); (have HS_ := A0_ (Sp.arr (pre := [Res.blk gx #[.int .i64 (addC c si).f0, .int .i64 (addC c si).f1, .int .i64 (addC c si).f2] 69, Res.row kC 69 w.heap.size (.slice (some ads) (stepsC).length cA11) (stepsC), Res.row kC 69 w.heap.size (.slice (some ado) (expI l0 o c i).length ca) (expI l0 o c i)]) (pre' := [Res.blk gx #[.int .i64 (addC c si).f0, .int .i64 (addC c si).f1, .int .i64 (addC c si).f2] 69, Res.row kC 69 w.heap.size (.slice (some ado) (expI l0 o c i).length ca) (expI l0 o c i), Res.row kC 69 w.heap.size (.slice (some ads) (stepsC).length cA11) (stepsC)]) (rest := ([] : List Res)) [0, 2, 1] HS.out rfl rfl)); clear HS; (have HS := HS_); clear HS_; (rw [show addC c si = x from hx.symm] at HS); (have HX6 := A0_ hx); clear hx; (have hx0 := (blk_cell (Sp.blk HS.out (i := 0) rfl).1 0).trans rfl); (have hx1 := (blk_cell (Sp.blk HS.out (i := 0) rfl).1 1).trans rfl); (have hx2 := (blk_cell (Sp.blk HS.out (i := 0) rfl).1 2).trans rfl); (obtain ⟨Ka, ra, ha, hKa⟩ := HIX.out l0 x HZ.out.2); (have HKA := A0_ hKa)
       cases c1 : l0.contains x with
       | false =>
        (rw [c1] at ha); (have n0_ : decide (0 ≤ ra) = false := ha); (have n1_ : (0 ≤ ra) = False := eq_false (of_decide_eq_false ha)); (have HN := A0_ (show expI l0 o c (i + 1) = expI l0 o c i by rw [HES.out, ← HX6.out]; unfold addO; rw [c1, Bool.false_and, if_neg (by simp)])); clear c1 ha
        go_wp2_with (first
         | (go_at_call 102; refine (spec_l09Index.calls Ka (some ad0) c0 l0 x.f0 x.f1 x.f2 ra _ (Kd.C_below HR0.out HS.out.below) HC0.out HKA.out).mono ?_; rintro e wc_ ⟨rfl, hd_⟩; have HS_ := A0_ (Sp.far HS.out hd_); clear HS; have HS := HS_; clear HS_; clear hd_ hx0 hx1 hx2 HKA; have hx0 := (blk_cell (Sp.blk HS.out (i := 0) rfl).1 0).trans rfl; have hx1 := (blk_cell (Sp.blk HS.out (i := 0) rfl).1 1).trans rfl; have hx2 := (blk_cell (Sp.blk HS.out (i := 0) rfl).1 2).trans rfl))
        (have HS_ := A0_ (show Sp w [Res.row kC 69 w.heap.size (.slice (some ado) (expI l0 o c i).length ca) (expI l0 o c i)] _ from Sp.tail (Sp.out HS.out 2))); clear HS; (have HS := HS_); clear HS_; (go_roundg k2)
        case measure => omega
        case rel =>
         (rw [HWI.out]); (exact ⟨i + 1, some ado, ca, rfl, by rw [HN.out], ⟨by have := HI6.out; omega, by have := HY.out; omega⟩, ⟨by rw [HN.out]; exact HS.out⟩⟩)
       | true =>
        (rw [c1] at ha); (have n0_ : decide (0 ≤ ra) = true := ha); (have n1_ : (0 ≤ ra) = True := eq_true (of_decide_eq_true ha)); (obtain ⟨Kb, rb, hb, hKb⟩ := HIX.out (expI l0 o c i) x (by have := HFI.out.len; have := HZ.out.2; omega)); (have HKB := A0_ hKb); clear ha hKb
        cases c2 : (expI l0 o c i).contains x with
        | true =>
         (rw [c2] at hb); (have m0_ : decide (rb < 0) = false := decide_eq_false (by have := of_decide_eq_true hb; omega)); (have m1_ : (rb < 0) = False := eq_false (by have := of_decide_eq_true hb; omega)); (have HN := A0_ (show expI l0 o c (i + 1) = expI l0 o c i by rw [HES.out, ← HX6.out]; unfold addO; rw [c1, c2, Bool.not_true, Bool.and_false, if_neg (by simp)])); clear c1 c2 hb
         go_wp2_with (first
          | (go_at_call 102; refine (spec_l09Index.calls Ka (some ad0) c0 l0 x.f0 x.f1 x.f2 ra _ (Kd.C_below HR0.out HS.out.below) HC0.out HKA.out).mono ?_; rintro e wc_ ⟨rfl, hd_⟩; have HS_ := A0_ (Sp.far HS.out hd_); clear HS; have HS := HS_; clear HS_; clear hd_ hx0 hx1 hx2 HKA; have hx0 := (blk_cell (Sp.blk HS.out (i := 0) rfl).1 0).trans rfl; have hx1 := (blk_cell (Sp.blk HS.out (i := 0) rfl).1 1).trans rfl; have hx2 := (blk_cell (Sp.blk HS.out (i := 0) rfl).1 2).trans rfl)
          | (go_at_call 102; refine (spec_l09Index.calls Kb (some ado) ca (expI l0 o c i) x.f0 x.f1 x.f2 rb _ (Sp.reads HS.out (i := 1) rfl).2.2 (Sp.reads HS.out (i := 1) rfl).2.1 HKB.out).mono ?_; rintro e wc_ ⟨rfl, hd_⟩; have HS_ := A0_ (Sp.far HS.out hd_); clear HS; have HS := HS_; clear HS_; clear hd_ hx0 hx1 hx2 HKB; have hx0 := (blk_cell (Sp.blk HS.out (i := 0) rfl).1 0).trans rfl; have hx1 := (blk_cell (Sp.blk HS.out (i := 0) rfl).1 1).trans rfl; have hx2 := (blk_cell (Sp.blk HS.out (i := 0) rfl).1 2).trans rfl))
         (have HS_ := A0_ (show Sp w [Res.row kC 69 w.heap.size (.slice (some ado) (expI l0 o c i).length ca) (expI l0 o c i)] _ from Sp.tail (Sp.out HS.out 2))); clear HS; (have HS := HS_); clear HS_; (go_roundg k2)
         case measure => omega
         case rel =>
          (rw [HWI.out]); (exact ⟨i + 1, some ado, ca, rfl, by rw [HN.out], ⟨by have := HI6.out; omega, by have := HY.out; omega⟩, ⟨by rw [HN.out]; exact HS.out⟩⟩)
        | false =>
         (rw [c2] at hb); (have m0_ : decide (rb < 0) = true := decide_eq_true (by have := of_decide_eq_false hb; omega)); (have m1_ : (rb < 0) = True := eq_true (by have := of_decide_eq_false hb; omega)); (have HN := A0_ (show expI l0 o c (i + 1) = expI l0 o c i ++ [x] by rw [HES.out, ← HX6.out]; unfold addO; rw [c1, c2, Bool.not_false, Bool.and_true, if_pos rfl])); clear c1 c2 hb; (have HS_ := A0_ (show Sp w [Res.blk gx #[.int .i64 x.f0, .int .i64 x.f1, .int .i64 x.f2] 69, Res.row kC 69 w.heap.size (.slice (some ado) (expI l0 o c i).length ca) (expI l0 o c i)] _ from Sp.out HS.out 2)); clear HS; (have HS := HS_); clear HS_
         go_wp2_with (first
          | (go_at_call 102; refine (spec_l09Index.calls Ka (some ad0) c0 l0 x.f0 x.f1 x.f2 ra _ (Kd.C_below HR0.out HS.out.below) HC0.out HKA.out).mono ?_; rintro e wc_ ⟨rfl, hd_⟩; have HS_ := A0_ (Sp.far HS.out hd_); clear HS; have HS := HS_; clear HS_; clear hd_ hx0 hx1 hx2 HKA; have hx0 := (blk_cell (Sp.blk HS.out (i := 0) rfl).1 0).trans rfl; have hx1 := (blk_cell (Sp.blk HS.out (i := 0) rfl).1 1).trans rfl; have hx2 := (blk_cell (Sp.blk HS.out (i := 0) rfl).1 2).trans rfl)
          | (go_at_call 102; refine (spec_l09Index.calls Kb (some ado) ca (expI l0 o c i) x.f0 x.f1 x.f2 rb _ (Sp.reads HS.out (i := 1) rfl).2.2 (Sp.reads HS.out (i := 1) rfl).2.1 HKB.out).mono ?_; rintro e wc_ ⟨rfl, hd_⟩; have HS_ := A0_ (Sp.far HS.out hd_); clear HS; have HS := HS_; clear HS_; clear hd_ hx0 hx1 hx2 HKB; have hx0 := (blk_cell (Sp.blk HS.out (i := 0) rfl).1 0).trans rfl; have hx1 := (blk_cell (Sp.blk HS.out (i := 0) rfl).1 1).trans rfl; have hx2 := (blk_cell (Sp.blk HS.out (i := 0) rfl).1 2).trans rfl)
          | ((with_reducible refine gate_dst (N := 42) rfl ?_); refine Kd.R_lit kC _ 69 ?hg (N := 42) ?hd (xs := [x]) (inner := [.int .i64 x.f0, .int .i64 x.f1, .int .i64 x.f2]) (ok := fun _ => True) (okp := fun _ => True) ?hr ?hp (fun _ hk => hk) trivial (Below.refl _ _) (Nat.le_refl _) (by simp) ?_; (case hd => rfl); (case hg => rfl); (case hr => first | (go_simp; done) | (go_simp; rfl)); (case hp => exact (Reps.c3 (show Kd.M kC _ _ _ x [.int .i64 x.f0, .int .i64 x.f1, .int .i64 x.f2] from k69_mkM _ _ _ x) (Reps.none _ _))); intro vl_ wl_ ho_ hb_ hg_ hn_; clear hg_ hn_; have HS_ := A0_ (Sp.made' HS.out hb_ ho_); clear HS; have HS := HS_; clear HS_; clear ho_ hb_; obtain ⟨Ax, cx, ev_⟩ := Sp.slice HS.out (i := 0) rfl; subst ev_; clear hx0 hx1 hx2)
          | ((with_reducible refine gate_builtin (b := .append) (xs := #[.tmp 40, .tmp 42]) rfl ?_); at_builtin; obtain ⟨fp_, ho_, hf_, hc_⟩ := Sp.row HS.out (i := 2) rfl; refine Kd.R_append_rows kC (w0 := w) w.heap.size rfl (.tmp 40) (.tmp 42) 34 69 ((.agg #[(.int .i64 0), (.int .i64 0), (.int .i64 0)])) 24 rfl Try.underlying34 info69 rfl (by decide) (by omega) (.slice (some ado) (expI l0 o c i).length ca) (expI l0 o c i) ([x]) _ _ _ _ (fun _ => False) rfl rfl ho_ ((Sp.reads HS.out (i := 0) rfl).2.2) (fun _ _ h => h) (fun _ h => h.elim) (fun _ h => Or.inr h) HS.out.below HS.out.below.size ?aL ?_; (case aL => have := HFI.out.len; have := HZ.out.2; simp only [List.length_cons, List.length_nil]; omega); intro va_ wa_ ho hb hg hat; have HS_ := A0_ (hc_ _ _ _ ho hg); clear HS; have HS := HS_; clear HS_; clear ho hb hg hat hc_ hf_ ho_ fp_; obtain ⟨A2, c2_, ev_⟩ := Sp.slice HS.out (i := 2) rfl; subst ev_; rw [← HN.out] at HS))
         (have HS_ := A0_ (show Sp w [Res.row kC 69 w.heap.size (.slice A2 (expI l0 o c (i + 1)).length c2_) (expI l0 o c (i + 1))] _ from Sp.tail (Sp.tail HS.out))); clear HS; (have HS := HS_); clear HS_; (go_roundg k2)
         case measure => omega
         case rel =>
          (rw [HWI.out]); (exact ⟨i + 1, A2, c2_, rfl, by rw [HN.out, List.length_append]; rfl, ⟨by have := HI6.out; omega, by have := HY.out; omega⟩, HS⟩)
     ·(refine event_step (v := .pointer (some ⟨wD.heap.size, 0, none⟩)) (w1 := wD.alloc (.cells #[.int .i64 0, .int .i64 0, .int .i64 0] 69)) (by rfl) (by first | (go_simp; done) | (go_simp; rfl)) ?_); (obtain ⟨gx, hg_⟩ : ∃ g_, g_ = (wD).heap.size := ⟨_, rfl⟩); (obtain ⟨wB11, hw_⟩ : ∃ w_, w_ = World.alloc wD (.cells #[.int .i64 0, .int .i64 0, .int .i64 0] 69) := ⟨_, rfl⟩); (rw [← hw_, ← hg_]); (have HS_ := A0_ (Sp.box HS.out #[.int .i64 0, .int .i64 0, .int .i64 0] 69)); (rw [← hw_, ← hg_] at HS_); clear HS; (have HS := HS_); clear HS_ hw_ hg_
      refine hK.out _ _ (⟨((HOA.out ▸ Sp.cbCells HS.out (i := 1) rfl k HKX.out).1), ((HOA.out ▸ Sp.cbCells HS.out (i := 1) rfl k HKX.out).2.1), ((HOA.out ▸ Sp.cbCells HS.out (i := 1) rfl k HKX.out).2.2)⟩) (fun hHeld => ?_)
      clear hK K; (refine nm_ (some 6) ?_)
      refine o1_ 4 (some 25) (fun K hK => ?_)
      (refine goes_ Try.func101 (by kernel_rfl) rfl #[] (by rfl) rfl rfl (by (try simp only [List.map_toArray, List.map_cons, List.map_nil]); first | done | rfl | (simp only [List.length_drop, List.length_take]; rfl)) ?_); (refine (spec_l09Steps.calls stepsC _ rfl).mono ?_); (rintro e wA12 ⟨vA12, rfl, ho, hb⟩); (refine ⟨_, rfl, ?_⟩); (have HS_ := A0_ (Sp.made' HS.out hb ho)); clear HS; (have HS := HS_); clear HS_; clear hb ho; (obtain ⟨AA12, cA12, rfl⟩ := Sp.slice HS.out (i := 0) rfl); (obtain ⟨ads, es_, _⟩ := at_T69 (Sp.reads HS.out (i := 0) rfl).2.2 (0 : Int) (by omega) (by decide)); subst es_
      refine hK.out _ _ (⟨((HOA.out ▸ Sp.cbCells HS.out (i := 2) rfl k HKX.out).1), ((HOA.out ▸ Sp.cbCells HS.out (i := 2) rfl k HKX.out).2.1), ((HOA.out ▸ Sp.cbCells HS.out (i := 2) rfl k HKX.out).2.2)⟩) (fun hHeld => ?_)
      clear hK K; (refine nm_ (some 25) ?_); (refine on_ 6 (some 27) ?_)
      refine o1_ 7 (some 28) (fun K hK => ?_)
      (obtain ⟨hs0, hs1, hs2⟩ := Sp.cbCells HS.out (i := 0) rfl i HI6.out); (rw [HSI0.out] at hs0 hs1 hs2); (refine event_step (v := .agg #[.int .i64 si.f0, .int .i64 si.f1, .int .i64 si.f2]) (w1 := wA12) (by rfl) (by first | (go_simp; done) | (go_simp; rfl)) ?_); clear hs0 hs1 hs2
      refine hK.out _ _ (⟨((HOA.out ▸ Sp.cbCells HS.out (i := 2) rfl k HKX.out).1), ((HOA.out ▸ Sp.cbCells HS.out (i := 2) rfl k HKX.out).2.1), ((HOA.out ▸ Sp.cbCells HS.out (i := 2) rfl k HKX.out).2.2)⟩) (fun hHeld => ?_)
      clear hK K; (refine nm_ (some 28) ?_)
      refine o1_ 8 (some 29) (fun K hK => ?_)
      (refine goes_ Try.func96 (by kernel_rfl) rfl #[.agg #[.int .i64 c.f0, .int .i64 c.f1, .int .i64 c.f2], .agg #[.int .i64 si.f0, .int .i64 si.f1, .int .i64 si.f2]] (by rfl) rfl rfl (by (try simp only [List.map_toArray, List.map_cons, List.map_nil]); first | done | rfl | (simp only [List.length_drop, List.length_take]; rfl)) ?_); (refine (spec_l09Add.calls c.f0 c.f1 c.f2 si.f0 si.f1 si.f2 (addC c si).f0 (addC c si).f1 (addC c si).f2 _ rfl).mono ?_); (rintro e wA13 ⟨rfl, hb⟩); (refine ⟨_, rfl, ?_⟩); (have HS_ := A0_ (Sp.far HS.out hb)); clear HS; (have HS := HS_); clear HS_; clear hb
      refine hK.out _ _ (⟨((HOA.out ▸ Sp.cbCells HS.out (i := 2) rfl k HKX.out).1), ((HOA.out ▸ Sp.cbCells HS.out (i := 2) rfl k HKX.out).2.1), ((HOA.out ▸ Sp.cbCells HS.out (i := 2) rfl k HKX.out).2.2)⟩) (fun hHeld => ?_)
      clear hK K; (refine nm_ (some 29) ?_)
      refine o1_ 10 none (fun K hK => ?_)
      (refine skip_ (w1 := wA13.setCells gx 0 (#[.int .i64 (addC c si).f0, .int .i64 (addC c si).f1, .int .i64 (addC c si).f2] : Array Value).toList) (by rfl) rfl (exec_store (v := .pointer (some ⟨gx, 0, none⟩)) (u := .agg #[.int .i64 (addC c si).f0, .int .i64 (addC c si).f1, .int .i64 (addC c si).f2]) rfl (by first | rfl | (go_simp; done) | (go_simp; rfl)) (by first | rfl | (go_simp; done) | (go_simp; rfl)) (Sp.blkStore HS.out (i := 1) rfl (.agg #[.int .i64 (addC c si).f0, .int .i64 (addC c si).f1, .int .i64 (addC c si).f2]) (#[.int .i64 (addC c si).f0, .int .i64 (addC c si).f1, .int .i64 (addC c si).f2]) rfl rfl (by kernel_rfl) (by first | (simp; done) | (simp [Value.oneCell']; done) | (simp; exact ⟨rfl, rfl, rfl⟩)))) ?_); (obtain ⟨wS14, hw_⟩ : ∃ w_, w_ = wA13.setCells gx 0 (#[.int .i64 (addC c si).f0, .int .i64 (addC c si).f1, .int .i64 (addC c si).f2] : Array Value).toList := ⟨_, rfl⟩); (rw [← hw_]); (have HS_ := A0_ (Sp.blkAll HS.out (i := 1) rfl (#[.int .i64 (addC c si).f0, .int .i64 (addC c si).f1, .int .i64 (addC c si).f2]) rfl)); (rw [← hw_] at HS_); clear HS; (have HS := HS_); clear HS_ hw_
      refine hK.out _ _ (⟨((HOA.out ▸ Sp.cbCells HS.out (i := 2) rfl k HKX.out).1), ((HOA.out ▸ Sp.cbCells HS.out (i := 2) rfl k HKX.out).2.1), ((HOA.out ▸ Sp.cbCells HS.out (i := 2) rfl k HKX.out).2.2)⟩) (fun hHeld => ?_)
      clear hK K; (refine dn_ ?_); (have HS_ := A0_ (Sp.arr (pre := [Res.row kC 69 w.heap.size (.slice (some ads) (stepsC).length cA12) (stepsC), Res.blk gx #[.int .i64 (addC c si).f0, .int .i64 (addC c si).f1, .int .i64 (addC c si).f2] 69, Res.row kC 69 w.heap.size (.slice (some ado) (expI l0 o c i).length ca) (expI l0 o c i)]) (pre' := [Res.blk gx #[.int .i64 (addC c si).f0, .int .i64 (addC c si).f1, .int .i64 (addC c si).f2] 69, Res.row kC 69 w.heap.size (.slice (some ado) (expI l0 o c i).length ca) (expI l0 o c i), Res.row kC 69 w.heap.size (.slice (some ads) (stepsC).length cA12) (stepsC)]) (rest := ([] : List Res)) [1, 2, 0] HS.out rfl rfl)); clear HS; (have HS := HS_); clear HS_; (rw [show addC c si = x from hx.symm] at HS); (have HX6 := A0_ hx); clear hx; (have hx0 := (blk_cell (Sp.blk HS.out (i := 0) rfl).1 0).trans rfl); (have hx1 := (blk_cell (Sp.blk HS.out (i := 0) rfl).1 1).trans rfl); (have hx2 := (blk_cell (Sp.blk HS.out (i := 0) rfl).1 2).trans rfl); (obtain ⟨Ka, ra, ha, hKa⟩ := HIX.out l0 x HZ.out.2); (have HKA := A0_ hKa)
      cases c1 : l0.contains x with
      | false =>
       (rw [c1] at ha); (have n0_ : decide (0 ≤ ra) = false := ha); (have n1_ : (0 ≤ ra) = False := eq_false (of_decide_eq_false ha)); (have HN := A0_ (show expI l0 o c (i + 1) = expI l0 o c i by rw [HES.out, ← HX6.out]; unfold addO; rw [c1, Bool.false_and, if_neg (by simp)])); clear c1 ha
       go_wp2_with (first
        | (go_at_call 102; refine (spec_l09Index.calls Ka (some ad0) c0 l0 x.f0 x.f1 x.f2 ra _ (Kd.C_below HR0.out HS.out.below) HC0.out HKA.out).mono ?_; rintro e wc_ ⟨rfl, hd_⟩; have HS_ := A0_ (Sp.far HS.out hd_); clear HS; have HS := HS_; clear HS_; clear hd_ hx0 hx1 hx2 HKA; have hx0 := (blk_cell (Sp.blk HS.out (i := 0) rfl).1 0).trans rfl; have hx1 := (blk_cell (Sp.blk HS.out (i := 0) rfl).1 1).trans rfl; have hx2 := (blk_cell (Sp.blk HS.out (i := 0) rfl).1 2).trans rfl))
       (have HS_ := A0_ (show Sp w [Res.row kC 69 w.heap.size (.slice (some ado) (expI l0 o c i).length ca) (expI l0 o c i)] _ from Sp.tail (Sp.out HS.out 2))); clear HS; (have HS := HS_); clear HS_; (go_roundg k2)
       case measure => omega
       case rel =>
        (rw [HWI.out]); (exact ⟨i + 1, some ado, ca, rfl, by rw [HN.out], ⟨by have := HI6.out; omega, by have := HY.out; omega⟩, ⟨by rw [HN.out]; exact HS.out⟩⟩)
      | true =>
       (rw [c1] at ha); (have n0_ : decide (0 ≤ ra) = true := ha); (have n1_ : (0 ≤ ra) = True := eq_true (of_decide_eq_true ha)); (obtain ⟨Kb, rb, hb, hKb⟩ := HIX.out (expI l0 o c i) x (by have := HFI.out.len; have := HZ.out.2; omega)); (have HKB := A0_ hKb); clear ha hKb
       cases c2 : (expI l0 o c i).contains x with
       | true =>
        (rw [c2] at hb); (have m0_ : decide (rb < 0) = false := decide_eq_false (by have := of_decide_eq_true hb; omega)); (have m1_ : (rb < 0) = False := eq_false (by have := of_decide_eq_true hb; omega)); (have HN := A0_ (show expI l0 o c (i + 1) = expI l0 o c i by rw [HES.out, ← HX6.out]; unfold addO; rw [c1, c2, Bool.not_true, Bool.and_false, if_neg (by simp)])); clear c1 c2 hb
        go_wp2_with (first
         | (go_at_call 102; refine (spec_l09Index.calls Ka (some ad0) c0 l0 x.f0 x.f1 x.f2 ra _ (Kd.C_below HR0.out HS.out.below) HC0.out HKA.out).mono ?_; rintro e wc_ ⟨rfl, hd_⟩; have HS_ := A0_ (Sp.far HS.out hd_); clear HS; have HS := HS_; clear HS_; clear hd_ hx0 hx1 hx2 HKA; have hx0 := (blk_cell (Sp.blk HS.out (i := 0) rfl).1 0).trans rfl; have hx1 := (blk_cell (Sp.blk HS.out (i := 0) rfl).1 1).trans rfl; have hx2 := (blk_cell (Sp.blk HS.out (i := 0) rfl).1 2).trans rfl)
         | (go_at_call 102; refine (spec_l09Index.calls Kb (some ado) ca (expI l0 o c i) x.f0 x.f1 x.f2 rb _ (Sp.reads HS.out (i := 1) rfl).2.2 (Sp.reads HS.out (i := 1) rfl).2.1 HKB.out).mono ?_; rintro e wc_ ⟨rfl, hd_⟩; have HS_ := A0_ (Sp.far HS.out hd_); clear HS; have HS := HS_; clear HS_; clear hd_ hx0 hx1 hx2 HKB; have hx0 := (blk_cell (Sp.blk HS.out (i := 0) rfl).1 0).trans rfl; have hx1 := (blk_cell (Sp.blk HS.out (i := 0) rfl).1 1).trans rfl; have hx2 := (blk_cell (Sp.blk HS.out (i := 0) rfl).1 2).trans rfl))
        (have HS_ := A0_ (show Sp w [Res.row kC 69 w.heap.size (.slice (some ado) (expI l0 o c i).length ca) (expI l0 o c i)] _ from Sp.tail (Sp.out HS.out 2))); clear HS; (have HS := HS_); clear HS_; (go_roundg k2)
        case measure => omega
        case rel =>
         (rw [HWI.out]); (exact ⟨i + 1, some ado, ca, rfl, by rw [HN.out], ⟨by have := HI6.out; omega, by have := HY.out; omega⟩, ⟨by rw [HN.out]; exact HS.out⟩⟩)
       | false =>
        (rw [c2] at hb); (have m0_ : decide (rb < 0) = true := decide_eq_true (by have := of_decide_eq_false hb; omega)); (have m1_ : (rb < 0) = True := eq_true (by have := of_decide_eq_false hb; omega)); (have HN := A0_ (show expI l0 o c (i + 1) = expI l0 o c i ++ [x] by rw [HES.out, ← HX6.out]; unfold addO; rw [c1, c2, Bool.not_false, Bool.and_true, if_pos rfl])); clear c1 c2 hb; (have HS_ := A0_ (show Sp w [Res.blk gx #[.int .i64 x.f0, .int .i64 x.f1, .int .i64 x.f2] 69, Res.row kC 69 w.heap.size (.slice (some ado) (expI l0 o c i).length ca) (expI l0 o c i)] _ from Sp.out HS.out 2)); clear HS; (have HS := HS_); clear HS_
        go_wp2_with (first
         | (go_at_call 102; refine (spec_l09Index.calls Ka (some ad0) c0 l0 x.f0 x.f1 x.f2 ra _ (Kd.C_below HR0.out HS.out.below) HC0.out HKA.out).mono ?_; rintro e wc_ ⟨rfl, hd_⟩; have HS_ := A0_ (Sp.far HS.out hd_); clear HS; have HS := HS_; clear HS_; clear hd_ hx0 hx1 hx2 HKA; have hx0 := (blk_cell (Sp.blk HS.out (i := 0) rfl).1 0).trans rfl; have hx1 := (blk_cell (Sp.blk HS.out (i := 0) rfl).1 1).trans rfl; have hx2 := (blk_cell (Sp.blk HS.out (i := 0) rfl).1 2).trans rfl)
         | (go_at_call 102; refine (spec_l09Index.calls Kb (some ado) ca (expI l0 o c i) x.f0 x.f1 x.f2 rb _ (Sp.reads HS.out (i := 1) rfl).2.2 (Sp.reads HS.out (i := 1) rfl).2.1 HKB.out).mono ?_; rintro e wc_ ⟨rfl, hd_⟩; have HS_ := A0_ (Sp.far HS.out hd_); clear HS; have HS := HS_; clear HS_; clear hd_ hx0 hx1 hx2 HKB; have hx0 := (blk_cell (Sp.blk HS.out (i := 0) rfl).1 0).trans rfl; have hx1 := (blk_cell (Sp.blk HS.out (i := 0) rfl).1 1).trans rfl; have hx2 := (blk_cell (Sp.blk HS.out (i := 0) rfl).1 2).trans rfl)
         | ((with_reducible refine gate_dst (N := 42) rfl ?_); refine Kd.R_lit kC _ 69 ?hg (N := 42) ?hd (xs := [x]) (inner := [.int .i64 x.f0, .int .i64 x.f1, .int .i64 x.f2]) (ok := fun _ => True) (okp := fun _ => True) ?hr ?hp (fun _ hk => hk) trivial (Below.refl _ _) (Nat.le_refl _) (by simp) ?_; (case hd => rfl); (case hg => rfl); (case hr => first | (go_simp; done) | (go_simp; rfl)); (case hp => exact (Reps.c3 (show Kd.M kC _ _ _ x [.int .i64 x.f0, .int .i64 x.f1, .int .i64 x.f2] from k69_mkM _ _ _ x) (Reps.none _ _))); intro vl_ wl_ ho_ hb_ hg_ hn_; clear hg_ hn_; have HS_ := A0_ (Sp.made' HS.out hb_ ho_); clear HS; have HS := HS_; clear HS_; clear ho_ hb_; obtain ⟨Ax, cx, ev_⟩ := Sp.slice HS.out (i := 0) rfl; subst ev_; clear hx0 hx1 hx2)
         | ((with_reducible refine gate_builtin (b := .append) (xs := #[.tmp 40, .tmp 42]) rfl ?_); at_builtin; obtain ⟨fp_, ho_, hf_, hc_⟩ := Sp.row HS.out (i := 2) rfl; refine Kd.R_append_rows kC (w0 := w) w.heap.size rfl (.tmp 40) (.tmp 42) 34 69 ((.agg #[(.int .i64 0), (.int .i64 0), (.int .i64 0)])) 24 rfl Try.underlying34 info69 rfl (by decide) (by omega) (.slice (some ado) (expI l0 o c i).length ca) (expI l0 o c i) ([x]) _ _ _ _ (fun _ => False) rfl rfl ho_ ((Sp.reads HS.out (i := 0) rfl).2.2) (fun _ _ h => h) (fun _ h => h.elim) (fun _ h => Or.inr h) HS.out.below HS.out.below.size ?aL ?_; (case aL => have := HFI.out.len; have := HZ.out.2; simp only [List.length_cons, List.length_nil]; omega); intro va_ wa_ ho hb hg hat; have HS_ := A0_ (hc_ _ _ _ ho hg); clear HS; have HS := HS_; clear HS_; clear ho hb hg hat hc_ hf_ ho_ fp_; obtain ⟨A2, c2_, ev_⟩ := Sp.slice HS.out (i := 2) rfl; subst ev_; rw [← HN.out] at HS))
        (have HS_ := A0_ (show Sp w [Res.row kC 69 w.heap.size (.slice A2 (expI l0 o c (i + 1)).length c2_) (expI l0 o c (i + 1))] _ from Sp.tail (Sp.tail HS.out))); clear HS; (have HS := HS_); clear HS_; (go_roundg k2)
        case measure => omega
        case rel =>
         (rw [HWI.out]); (exact ⟨i + 1, A2, c2_, rfl, by rw [HN.out, List.length_append]; rfl, ⟨by have := HI6.out; omega, by have := HY.out; omega⟩, HS⟩)
    ·(have ci0 : decide (i < 6) = false := decide_eq_false ci); (have ci1 : (i < 6) = False := eq_false ci); (have ci2 : decide ((i : Int) < 6) = false := decide_eq_false (by omega)); (have ci3 : ((i : Int) < 6) = False := eq_false (by omega)); (have hi : i = 6 := by have := HY.out; omega); subst hi; clear ci; go_wp2; (go_roundg k1)
     case measure => omega
     case rel =>
      (rw [HW.out]); (have h1 := (HPR.out 6 (Nat.le_refl _)).1); (exact ⟨k + 1, expI l0 o c 6, A, ca, rfl, rfl, ⟨by omega, HFT.out 6 (Nat.le_refl _), by have := HX.out; omega⟩, ⟨by rw [HFIN.out, HNX.out]⟩, HS⟩)
  ·(have ck0 : decide (k < o.length) = false := decide_eq_false ck)
   have HNX := A0_ (show conP l0 = decide (o.length = l0.length) by
    (rw [HFIN.out]); (have h1 := HX.out.2.1.len); (have h2 := HX.out.1); (rw [show l0.length + 1 - k = (l0.length - k) + 1 from by omega]); (unfold bfsO); (rw [if_neg ck]))
   clear ck; (by_cases ce : o.length = l0.length)
   ·(have ce0 : (o.length == l0.length) = true := by rw [beq_iff_eq]; exact ce); (have ce1 : ((o.length : Int) == (l0.length : Int)) = true := by rw [beq_iff_eq]; omega); (have ce2 := eq_true ce); (rw [decide_eq_true ce] at HNX); clear ce; go_wp2; go_ret; (exact ⟨by rw [HNX.out]; rfl, HS.out.below⟩)
   ·(have ce0 : (o.length == l0.length) = false := by rw [beq_eq_false_iff_ne]; exact ce); (have ce1 : ((o.length : Int) == (l0.length : Int)) = false := by rw [beq_eq_false_iff_ne]; omega); (have ce2 := eq_false ce); (rw [decide_eq_false ce] at HNX); clear ce; go_wp2; go_ret; (exact ⟨by rw [HNX.out]; rfl, HS.out.below⟩)
end Go.Proofs.Ytlbckkagjekhnaa.A

/- HAND spec.IsAssembly (spec.IsAssembly) walked over separate resources; it stands in the place of a printed text. -/
namespace Go.Proofs.Ytlbckkagjekhnaa.A
open Go.RowKit Go.Proofs.YtlbckkagjekhnaaW.PrintWords Go.Proofs.YtlbckkagjekhnaaW.PrintLast Go.Proofs.YtlbckkagjekhnaaW.PrintMore
set_option linter.unusedVariables false
set_option linter.unusedSimpArgs false
def spec_IsAssembly.f (k : Nat) (l : List (List Cb)) : Option Bool := if l.length ≤ 1048576 ∧ ∀ p ∈ l, p.length ≤ 1048576 then some (asmS l) else none
theorem meetS_at (a b : List Cb) (ha : a.length ≤ 1048576) (hb : b.length ≤ 1048576) : ∃ K, spec_l27Meet.f K a b = some (meetS a b) := (smeet_ev a b ha hb).rounds
def sasF.T17 : Bool × List (List Nat × List Nat) := (true, [([], []), ([0], [0]), ([], []), ([1, 2], [1, 2]), ([3], [3]), ([], []), ([5], [5]), ([], []), ([6, 7], [6, 7]), ([8], [8]), ([4, 9], [4, 9])])
def sasF.B17 : List Nat := [0, 1, 0, 7, 15, 0, 32, 0, 224, 480, 1023]
theorem sasF.tab17 : rtab .any (opsOf Try.f54 17) = sasF.T17 := by kernel_rfl
theorem sasF.bits17 : waitsOk sasF.T17.2 sasF.B17 = true := by kernel_rfl
set_option maxHeartbeats 4000000 in
set_option maxRecDepth 100000 in
theorem spec_IsAssembly.calls (k : Nat) (A0 : Option Addr) (c0 : Nat) (l : List (List Cb)) (r : Bool) (w : World) (hr0 : Kd.C (Kd.slice 69 k69) w A0 l.length l) (hc0 : l.length ≤ c0) (h : spec_IsAssembly.f k l = some r) :
    Calls Try.prog 54 #[.agg #[.slice A0 l.length c0]] w fun e w' => e = .returned (.bool r) ∧ Below w.heap.size w w' := by
 (have hu32 := Try.underlying32); (have hu69 := Try.underlying69); (unfold spec_IsAssembly.f at h); (split at h)
 case isFalse => cases h
 (rename_i hz); (obtain rfl := Option.some.inj h); (have HR0 := A0_ hr0); (have HZ := A0_ hz); (have HS := A0_ (Sp.start w)); clear hr0 hz h
 cases hn : inR (l.length : Int) 2 4 with
 | false =>
  (have HF := A0_ (asmS_few l hn)); (have HIN := A0_ ((in_eq (l.length : Int) 2 4).trans (congrArg some hn))); clear hn; (go_enter Try.func54, Try.ntmps54)
  go_wp2_with (first
   | ((with_reducible refine gate_dst (N := 1) rfl ?_); refine box_event ?hg (N := 1) ?hd (cs := #[.slice A0 l.length c0]) (t := 32) ?hr ?_; (case hd => rfl); (case hg => rfl); (case hr => first | (go_simp; done) | (go_simp; rfl)); intro ga hgb_ wb_ hcb_ hbb_; have HS_ := A0_ (Sp.boxed HS.out hgb_ hcb_ hbb_); clear HS; have HS := HS_; clear HS_; clear hgb_ hcb_ hbb_; have ha0 := (blk_cell (Sp.blk HS.out (i := 0) rfl).1 0).trans rfl)
   | (go_at_call 45; refine (spec_l01In.calls (l.length : Int) 2 4 false _ HIN.out).mono ?_; rintro e wc_ ⟨rfl, hb_⟩; have HS_ := A0_ (Sp.far HS.out hb_.below); clear HS; have HS := HS_; clear HS_; clear hb_ ha0))
  go_ret; (exact ⟨by rw [HF.out]; rfl, HS.out.below⟩)
 | true =>
 (have HIN := A0_ ((in_eq (l.length : Int) 2 4).trans (congrArg some hn))); (have HL := A0_ (show 2 ≤ l.length ∧ l.length ≤ 4 by unfold inR at hn; rw [Bool.and_eq_true, decide_eq_true_eq, decide_eq_true_eq] at hn; omega)); (have HEND := A0_ (asmS_end l hn)); clear hn; (go_enter Try.func54, Try.ntmps54)
 go_wp2_with (first
  | ((with_reducible refine gate_dst (N := 1) rfl ?_); refine box_event ?hg (N := 1) ?hd (cs := #[.slice A0 l.length c0]) (t := 32) ?hr ?_; (case hd => rfl); (case hg => rfl); (case hr => first | (go_simp; done) | (go_simp; rfl)); intro ga hgb_ wb_ hcb_ hbb_; have HS_ := A0_ (Sp.boxed HS.out hgb_ hcb_ hbb_); clear HS; have HS := HS_; clear HS_; clear hgb_ hcb_ hbb_; have ha0 := (blk_cell (Sp.blk HS.out (i := 0) rfl).1 0).trans rfl)
  | (go_at_call 45; refine (spec_l01In.calls (l.length : Int) 2 4 true _ HIN.out).mono ?_; rintro e wc_ ⟨rfl, hb_⟩; have HS_ := A0_ (Sp.far HS.out hb_.below); clear HS; have HS := HS_; clear HS_; clear hb_ ha0))
 go_loopg [3] (l.length + 1) (fun kq v3 w' => ∃ (i : Nat), v3 = .int .i64 (i : Int) ∧ Aside0 (i ≤ l.length ∧ kq + i = l.length + 1 ∧ (List.range i).all (rowOk l) = true) ∧ Aside0 (Sp w [Res.blk ga #[.slice A0 l.length c0] 32] w'))
 case atStart => exact ⟨0, rfl, ⟨by omega, by omega, rfl⟩, HS⟩
 case round =>
  clear HS; (obtain ⟨i, rfl, HX, HS⟩ := hrel); (obtain ⟨k1, rfl⟩ : ∃ k1, gk = k1 + 1 := ⟨gk - 1, by have := HX.out; omega⟩); (have ha0 := (blk_cell (Sp.blk HS.out (i := 0) rfl).1 0).trans rfl); (by_cases ci : i < l.length)
  ·(have ci0 : decide (i < l.length) = true := decide_eq_true ci); (have q0 : (0 ≤ (i : Int)) = True := eq_true (by omega)); (have q1 : ((i : Int) < (l.length : Int)) = True := eq_true (by omega)); (have q2 : (i < l.length) = True := eq_true ci); (have HW := A0_ (wrap_succ i (by have := HL.out; omega))); (have hno := asmS_no l i ci); (have hnx := range_next (rowOk l) i HX.out.2.2); (obtain ⟨adp, Ai, ci_, e, hx0, hx1, hx2⟩ := at_L4 HR0.out (i : Int) (by omega) (by omega)); subst e; (have hpl := HZ.out.2 _ (pAt_mem l i ci)); (rw [show rd_L4 l (i : Int) = pAt l i from rfl] at hx0 hx1 hx2); (rw [Int.toNat_natCast] at hx0); (unfold rowOk at hno hnx); (have HCI := A0_ ci); (obtain ⟨p, hp⟩ : ∃ p, p = pAt l i := ⟨_, rfl⟩); (rw [← hp] at hno hnx hx0 hx1 hx2 hpl); (have HP0 := A0_ hx0); (have HP1 := A0_ hx1); (have HP2 := A0_ hx2); (have HPL := A0_ hpl); (have hxi := pw_cell_below HS.out.below HP0.out); clear ci hp hx0 hx1 hx2
   cases b1 : solP p with
   | false =>
    (have HSO := A0_ (show spec_l09Solid.f 0 p = some false by unfold spec_l09Solid.f; rw [if_pos hpl, b1])); (have HF := A0_ (hno (by rw [b1, Bool.false_and]))); clear hno hnx b1 hpl
    go_wp2_with (first
     | (go_at_call 76; refine (spec_l09Solid.calls 0 Ai ci_ p false _ (Kd.C_below HP2.out HS.out.below) HP1.out HSO.out).mono ?_; rintro e wc_ ⟨rfl, hb_⟩; have HS_ := A0_ (Sp.far HS.out hb_); clear HS; have HS := HS_; clear HS_; clear hb_ ha0 hxi))
    go_ret; (exact ⟨by rw [HF.out]; rfl, HS.out.below⟩)
   | true =>
   (have HSO := A0_ (show spec_l09Solid.f 0 p = some true by unfold spec_l09Solid.f; rw [if_pos hpl, b1]))
   have h1 : 1 ≤ p.length := by
    (unfold solP at b1); (rw [Bool.and_eq_true, Bool.and_eq_true, decide_eq_true_eq] at b1); (exact b1.2.1)
   (rw [b1, Bool.true_and] at hno hnx); clear b1
   cases b2 : conP p with
   | false =>
    (have HCO := A0_ (show spec_l09Connected.f 0 p = some false by unfold spec_l09Connected.f; rw [if_pos ⟨h1, hpl⟩, b2])); (have HF := A0_ (hno (by rw [b2, Bool.false_and]))); clear hno hnx b2 hpl h1
    go_wp2_with (first
     | (go_at_call 76; refine (spec_l09Solid.calls 0 Ai ci_ p true _ (Kd.C_below HP2.out HS.out.below) HP1.out HSO.out).mono ?_; rintro e wc_ ⟨rfl, hb_⟩; have HS_ := A0_ (Sp.far HS.out hb_); clear HS; have HS := HS_; clear HS_; clear hb_ ha0 hxi; have ha0 := (blk_cell (Sp.blk HS.out (i := 0) rfl).1 0).trans rfl; have hxi := pw_cell_below HS.out.below HP0.out)
     | (go_at_call 77; refine (spec_l09Connected.calls 0 Ai ci_ p false _ (Kd.C_below HP2.out HS.out.below) HP1.out HCO.out).mono ?_; rintro e wc_ ⟨rfl, hb_⟩; have HS_ := A0_ (Sp.far HS.out hb_); clear HS; have HS := HS_; clear HS_; clear hb_ ha0 hxi))
    go_ret; (exact ⟨by rw [HF.out]; rfl, HS.out.below⟩)
   | true =>
   (have HCO := A0_ (show spec_l09Connected.f 0 p = some true by unfold spec_l09Connected.f; rw [if_pos ⟨h1, hpl⟩, b2])); (rw [b2, Bool.true_and] at hno hnx); (have HNO := A0_ hno); (have HNX := A0_ hnx); clear hno hnx b2 hpl h1
   go_wp2_with (first
    | (go_at_call 76; refine (spec_l09Solid.calls 0 Ai ci_ p true _ (Kd.C_below HP2.out HS.out.below) HP1.out HSO.out).mono ?_; rintro e wc_ ⟨rfl, hb_⟩; have HS_ := A0_ (Sp.far HS.out hb_); clear HS; have HS := HS_; clear HS_; clear hb_ ha0 hxi; have ha0 := (blk_cell (Sp.blk HS.out (i := 0) rfl).1 0).trans rfl; have hxi := pw_cell_below HS.out.below HP0.out)
    | (go_at_call 77; refine (spec_l09Connected.calls 0 Ai ci_ p true _ (Kd.C_below HP2.out HS.out.below) HP1.out HCO.out).mono ?_; rintro e wc_ ⟨rfl, hb_⟩; have HS_ := A0_ (Sp.far HS.out hb_); clear HS; have HS := HS_; clear HS_; clear hb_ ha0 hxi))
   go_loopg [4] (p.length + 1) (fun kq v4 w' => ∃ (j : Nat), v4 = .int .i64 (j : Int) ∧ Aside0 (j ≤ p.length ∧ kq + j = p.length + 1 ∧ (List.range j).all (fun c => inCb (cAt p c) 0 7) = true) ∧ Aside0 (Sp w [Res.blk ga #[.slice (some adp) l.length c0] 32] w'))
   case atStart => exact ⟨0, rfl, ⟨by omega, by omega, rfl⟩, HS⟩
   case round =>
    clear HS; (obtain ⟨j, rfl, HY, HS⟩ := hrel); (obtain ⟨k2, rfl⟩ : ∃ k2, gk = k2 + 1 := ⟨gk - 1, by have := HY.out; omega⟩); (have ha0 := (blk_cell (Sp.blk HS.out (i := 0) rfl).1 0).trans rfl); (have hxi := pw_cell_below HS.out.below HP0.out); (by_cases cj : j < p.length)
    ·(have cj0 : decide (j < p.length) = true := decide_eq_true cj); (have p0 : (0 ≤ (j : Int)) = True := eq_true (by omega)); (have p1 : ((j : Int) < (p.length : Int)) = True := eq_true (by omega)); (have p2 : (j < p.length) = True := eq_true cj); (have HWJ := A0_ (wrap_succ j (by have := HPL.out; omega)))
     have HNJ := A0_ (range_next (fun c => inCb (cAt p c) 0 7) j HY.out.2.2)
     have HBJ := A0_ (fun h => HNO.out (by rw [range_no (fun c => inCb (cAt p c) 0 7) p.length j cj h, Bool.false_and]))
     (obtain ⟨adc, e, hx0, hx1, hx2⟩ := at_T69 (Kd.C_below HP2.out HS.out.below) (j : Int) (by omega) (by omega)); subst e; (rw [show rd_T69 p (j : Int) = cAt p j from rfl] at hx0 hx1 hx2); (rw [Int.toNat_natCast] at hx0 hx1 hx2); (have HCJ := A0_ cj); (obtain ⟨c, hc⟩ : ∃ c, c = cAt p j := ⟨_, rfl⟩); (rw [← hc] at hx0 hx1 hx2 HNJ HBJ); clear cj hc
     have hin : ∀ x : Int, spec_l01In.f x 0 7 = some (inR x 0 7) := fun x => in_eq x 0 7
     cases b0 : inR c.f0 0 7 with
     | false =>
      (have HB0 := A0_ ((hin c.f0).trans (congrArg some b0))); (have HF := A0_ (HBJ.out (by unfold inCb; rw [b0]; rfl))); clear b0 hin HNJ HBJ
      go_wp2_with (first
       | (go_at_call 45; obtain ⟨gc, hg_⟩ : ∃ g_, g_ = (wr).heap.size := ⟨_, rfl⟩; obtain ⟨wx, hw_⟩ : ∃ w_, w_ = (wr).alloc (.cells #[.int .i64 c.f0, .int .i64 c.f1, .int .i64 c.f2] 69) := ⟨_, rfl⟩; (try rw [← hw_]); (try rw [← hg_]); have HS_ := A0_ (Sp.box HS.out #[.int .i64 c.f0, .int .i64 c.f1, .int .i64 c.f2] 69); rw [← hw_, ← hg_] at HS_; clear HS; have HS := HS_; clear HS_ hw_ hg_; refine (spec_l01In.calls c.f0 0 7 false _ HB0.out).mono ?_; rintro e wc_ ⟨rfl, hb_⟩; have HS_ := A0_ (Sp.far HS.out hb_.below); clear HS; have HS := HS_; clear HS_; clear hb_ ha0 hxi hx0 hx1 hx2))
      go_ret; (exact ⟨by rw [HF.out]; rfl, HS.out.below⟩)
     | true =>
     (have HB0 := A0_ ((hin c.f0).trans (congrArg some b0)))
     cases b1 : inR c.f1 0 7 with
     | false =>
      (have HB1 := A0_ ((hin c.f1).trans (congrArg some b1))); (have HF := A0_ (HBJ.out (by unfold inCb; rw [b0, b1]; rfl))); clear b0 b1 hin HNJ HBJ
      go_wp2_with (first
       | (go_at_call 45; obtain ⟨gc, hg_⟩ : ∃ g_, g_ = (wr).heap.size := ⟨_, rfl⟩; obtain ⟨wx, hw_⟩ : ∃ w_, w_ = (wr).alloc (.cells #[.int .i64 c.f0, .int .i64 c.f1, .int .i64 c.f2] 69) := ⟨_, rfl⟩; (try rw [← hw_]); (try rw [← hg_]); have HS_ := A0_ (Sp.box HS.out #[.int .i64 c.f0, .int .i64 c.f1, .int .i64 c.f2] 69); rw [← hw_, ← hg_] at HS_; clear HS; have HS := HS_; clear HS_ hw_ hg_; refine (spec_l01In.calls c.f0 0 7 true _ HB0.out).mono ?_; rintro e wc_ ⟨rfl, hb_⟩; have HS_ := A0_ (Sp.far HS.out hb_.below); clear HS; have HS := HS_; clear HS_; clear hb_ ha0 hxi hx0 hx1 hx2 HB0; have hc1 := (blk_cell (Sp.blk HS.out (i := 0) rfl).1 1).trans rfl)
       | (go_at_call 45; refine (spec_l01In.calls c.f1 0 7 false _ HB1.out).mono ?_; rintro e wc_ ⟨rfl, hb_⟩; have HS_ := A0_ (Sp.far HS.out hb_.below); clear HS; have HS := HS_; clear HS_; clear hb_ hc1))
      go_ret; (exact ⟨by rw [HF.out]; rfl, HS.out.below⟩)
     | true =>
     (have HB1 := A0_ ((hin c.f1).trans (congrArg some b1)))
     cases b2 : inR c.f2 0 7 with
     | false =>
      (have HB2 := A0_ ((hin c.f2).trans (congrArg some b2))); (have HF := A0_ (HBJ.out (by unfold inCb; rw [b0, b1, b2]; rfl))); clear b0 b1 b2 hin HNJ HBJ
      go_wp2_with (first
       | (go_at_call 45; obtain ⟨gc, hg_⟩ : ∃ g_, g_ = (wr).heap.size := ⟨_, rfl⟩; obtain ⟨wx, hw_⟩ : ∃ w_, w_ = (wr).alloc (.cells #[.int .i64 c.f0, .int .i64 c.f1, .int .i64 c.f2] 69) := ⟨_, rfl⟩; (try rw [← hw_]); (try rw [← hg_]); have HS_ := A0_ (Sp.box HS.out #[.int .i64 c.f0, .int .i64 c.f1, .int .i64 c.f2] 69); rw [← hw_, ← hg_] at HS_; clear HS; have HS := HS_; clear HS_ hw_ hg_; refine (spec_l01In.calls c.f0 0 7 true _ HB0.out).mono ?_; rintro e wc_ ⟨rfl, hb_⟩; have HS_ := A0_ (Sp.far HS.out hb_.below); clear HS; have HS := HS_; clear HS_; clear hb_ ha0 hxi hx0 hx1 hx2 HB0; have hc1 := (blk_cell (Sp.blk HS.out (i := 0) rfl).1 1).trans rfl; have hc2 := (blk_cell (Sp.blk HS.out (i := 0) rfl).1 2).trans rfl)
       | (go_at_call 45; refine (spec_l01In.calls c.f1 0 7 true _ HB1.out).mono ?_; rintro e wc_ ⟨rfl, hb_⟩; have HS_ := A0_ (Sp.far HS.out hb_.below); clear HS; have HS := HS_; clear HS_; clear hb_ hc1 hc2 HB1; have hc2 := (blk_cell (Sp.blk HS.out (i := 0) rfl).1 2).trans rfl)
       | (go_at_call 45; refine (spec_l01In.calls c.f2 0 7 false _ HB2.out).mono ?_; rintro e wc_ ⟨rfl, hb_⟩; have HS_ := A0_ (Sp.far HS.out hb_.below); clear HS; have HS := HS_; clear HS_; clear hb_ hc2))
      go_ret; (exact ⟨by rw [HF.out]; rfl, HS.out.below⟩)
     | true =>
     (have HB2 := A0_ ((hin c.f2).trans (congrArg some b2))); (have HN := A0_ (HNJ.out (by unfold inCb; rw [b0, b1, b2]; rfl))); clear b0 b1 b2 hin HNJ HBJ
     go_wp2_with (first
      | (go_at_call 45; obtain ⟨gc, hg_⟩ : ∃ g_, g_ = (wr).heap.size := ⟨_, rfl⟩; obtain ⟨wx, hw_⟩ : ∃ w_, w_ = (wr).alloc (.cells #[.int .i64 c.f0, .int .i64 c.f1, .int .i64 c.f2] 69) := ⟨_, rfl⟩; (try rw [← hw_]); (try rw [← hg_]); have HS_ := A0_ (Sp.box HS.out #[.int .i64 c.f0, .int .i64 c.f1, .int .i64 c.f2] 69); rw [← hw_, ← hg_] at HS_; clear HS; have HS := HS_; clear HS_ hw_ hg_; refine (spec_l01In.calls c.f0 0 7 true _ HB0.out).mono ?_; rintro e wc_ ⟨rfl, hb_⟩; have HS_ := A0_ (Sp.far HS.out hb_.below); clear HS; have HS := HS_; clear HS_; clear hb_ ha0 hxi hx0 hx1 hx2 HB0; have hc1 := (blk_cell (Sp.blk HS.out (i := 0) rfl).1 1).trans rfl; have hc2 := (blk_cell (Sp.blk HS.out (i := 0) rfl).1 2).trans rfl)
      | (go_at_call 45; refine (spec_l01In.calls c.f1 0 7 true _ HB1.out).mono ?_; rintro e wc_ ⟨rfl, hb_⟩; have HS_ := A0_ (Sp.far HS.out hb_.below); clear HS; have HS := HS_; clear HS_; clear hb_ hc1 hc2 HB1; have hc2 := (blk_cell (Sp.blk HS.out (i := 0) rfl).1 2).trans rfl)
      | (go_at_call 45; refine (spec_l01In.calls c.f2 0 7 true _ HB2.out).mono ?_; rintro e wc_ ⟨rfl, hb_⟩; have HS_ := A0_ (Sp.far HS.out hb_.below); clear HS; have HS := HS_; clear HS_; clear hb_ hc2 HB2))
     (have HS_ := A0_ (Sp.tail HS.out)); clear HS; (have HS := HS_); clear HS_; (go_roundg k2)
     case measure => omega
     case rel =>
      (rw [HWJ.out]); (exact ⟨j + 1, rfl, ⟨by have := HCJ.out; omega, by have := HY.out; omega, HN.out⟩, HS⟩)
    ·(have cj0 : decide (j < p.length) = false := decide_eq_false cj); (have cj1 : (j < p.length) = False := eq_false cj); (have hj : j = p.length := by have := HY.out; omega); (have HALL := A0_ (hj ▸ HY.out.2.2)); (have hno := HNO.out); (have hnx := HNX.out); (rw [HALL.out, Bool.true_and] at hno hnx); (have HNO2 := A0_ hno); (have HNX2 := A0_ hnx); clear cj hj hno hnx HNO HNX HALL; go_wp2; clear hxi ha0
     go_loopg [6] (i + 1) (fun kq v6 w' => ∃ (j : Nat), v6 = .int .i64 (j : Int) ∧ Aside0 (j ≤ i ∧ kq + j = i + 1 ∧ (List.range j).all (fun q => !meetS p (pAt l q)) = true) ∧ Aside0 (Sp w [Res.blk ga #[.slice (some adp) l.length c0] 32] w'))
     case atStart => exact ⟨0, rfl, ⟨by omega, by omega, rfl⟩, HS⟩
     case round =>
      clear HS; (obtain ⟨j, rfl, HY2, HS⟩ := hrel); (obtain ⟨k2, rfl⟩ : ∃ k2, gk = k2 + 1 := ⟨gk - 1, by have := HY2.out; omega⟩); (by_cases cj : j < i)
      ·(have cj0 : decide (j < i) = true := decide_eq_true cj); (have p0 : (0 ≤ (j : Int)) = True := eq_true (by omega)); (have p1 : ((j : Int) < (l.length : Int)) = True := eq_true (by have := HCI.out; omega)); (have p2 : (j < l.length) = True := eq_true (by have := HCI.out; omega)); (have HWJ := A0_ (wrap_succ j (by have := HL.out; have := HCI.out; omega)))
       have HNJ := A0_ (range_next (fun q => !meetS p (pAt l q)) j HY2.out.2.2)
       have HBJ := A0_ (fun h => HNO2.out (range_no (fun q => !meetS p (pAt l q)) i j cj h))
       (obtain ⟨ad2, Aj, cj_, e, hx0, hx1, hx2⟩ := at_L4 HR0.out (j : Int) (by omega) (by have := HCI.out; omega)); (injection e with e); subst e; (have hpl := HZ.out.2 _ (pAt_mem l j (by have := HCI.out; omega))); (rw [show rd_L4 l (j : Int) = pAt l j from rfl] at hx0 hx1 hx2); (rw [Int.toNat_natCast] at hx0); (have HCJ := A0_ cj); (try dsimp only at HNJ HBJ); (obtain ⟨pj, hpj⟩ : ∃ pj, pj = pAt l j := ⟨_, rfl⟩); (rw [← hpj] at hx0 hx1 hx2 HNJ HBJ hpl); (have HJ0 := A0_ hx0); (have HJ1 := A0_ hx1); (have HJ2 := A0_ hx2); (obtain ⟨KM, hKM⟩ := meetS_at p pj HPL.out hpl); (have HME := A0_ hKM); clear cj hpj hx0 hx1 hx2 hKM hpl; (have HS_ := A0_ (show Sp w ([Res.blk ga #[.slice (some adp) l.length c0] 32] ++ ([] : List Res)) wr.drew from Sp.drew HS.out)); clear HS; (have HS := HS_); clear HS_; go_wp2
       refine start_ (n := 11) (S := fun w' => w'.cell? ⟨ga, 0, none⟩ = some (.slice (some adp) l.length c0) ∧ w'.cell? (adp.add i) = some (.slice Ai p.length ci_) ∧ w'.cell? (adp.add j) = some (.slice Aj pj.length cj_)) (ds := []) #[ff,ff,ff,ff,ff,ff,ff,ff,ff,ff,ff] (by kernel_rfl) rfl rfl (⟨(blk_cell (Sp.blk HS.out (i := 0) rfl).1 0).trans rfl, pw_cell_below HS.out.below HP0.out, pw_cell_below HS.out.below HJ0.out⟩) (fun hHeld => ?_)
       refine with_tabW sasF.tab17 sasF.bits17 (fun HT_ HW_ => ?_)
       (generalize wr.drew = wD at HS hHeld ⊢); (refine on_ 0 (some 74) ?_); (refine tk_ 1 (some 75) ?_); (refine on_ 2 (some 76) ?_); (refine on_ 3 (some 77) ?_); (refine tk_ 4 (some 78) ?_); (refine on_ 5 (some 79) ?_); (refine tk_ 6 (some 80) ?_); (refine on_ 7 (some 81) ?_); (refine on_ 8 (some 82) ?_); (refine tk_ 9 (some 83) ?_)
       refine o1_ 10 (some 84) (fun K hK => ?_)
       (refine goes_ Try.func78 (by kernel_rfl) rfl #[.slice Ai p.length ci_, .slice Aj pj.length cj_] (by rfl) rfl rfl (by (try simp only [List.map_toArray, List.map_cons, List.map_nil]); first | done | rfl | (simp only [List.length_drop, List.length_take]; rfl)) ?_); (refine (spec_l27Meet.calls KM Ai ci_ p Aj cj_ pj (meetS p pj) _ (Kd.C_below HP2.out HS.out.below) HP1.out (Kd.C_below HJ2.out HS.out.below) HJ1.out HME.out).mono ?_); (rintro e wA11 ⟨rfl, hb⟩); (refine ⟨_, rfl, ?_⟩); (have HS_ := A0_ (Sp.far HS.out hb)); clear HS; (have HS := HS_); clear HS_; clear hb
       refine hK.out _ _ (⟨(blk_cell (Sp.blk HS.out (i := 0) rfl).1 0).trans rfl, pw_cell_below HS.out.below HP0.out, pw_cell_below HS.out.below HJ0.out⟩) (fun hHeld => ?_)
       clear hK K; (refine nm_ (some 84) ?_); (refine dn_ ?_)
       cases hm : meetS p pj with
       | true =>
        (have HF := A0_ (HBJ.out (by rw [hm]; rfl))); clear HNJ HBJ; (try rw [hm]); go_wp2; go_ret; (exact ⟨by rw [HF.out]; rfl, HS.out.below⟩)
       | false =>
        (have HN := A0_ (HNJ.out (by rw [hm]; rfl))); clear HNJ HBJ; (try rw [hm]); go_wp2; (go_roundg k2)
        case measure => omega
        case rel =>
         (rw [HWJ.out]); (exact ⟨j + 1, rfl, ⟨by have := HCJ.out; omega, by have := HY2.out; omega, HN.out⟩, HS⟩)
      ·(have cj0 : decide (j < i) = false := decide_eq_false cj); (have cj1 : (j < i) = False := eq_false cj); (have hj : j = i := by have := HY2.out; omega); (have HN := A0_ (HNX2.out (hj ▸ HY2.out.2.2))); clear cj hj; go_wp2; (go_roundg k1)
       case measure => omega
       case rel =>
        (rw [HW.out]); (exact ⟨i + 1, rfl, ⟨by have := HCI.out; omega, by have := HX.out; omega, HN.out⟩, HS⟩)
  ·(have ci0 : decide (i < l.length) = false := decide_eq_false ci); (have ci1 : (i < l.length) = False := eq_false ci); (have hi : i = l.length := by have := HX.out; omega); (have HF := A0_ (HEND.out (hi ▸ HX.out.2.2))); clear ci hi; go_wp2; go_ret; (exact ⟨by rw [HF.out]; rfl, HS.out.below⟩)
end Go.Proofs.Ytlbckkagjekhnaa.A

/- The statement's IsAssembly answers the program's plain word. No program in sight. -/
namespace Go.Proofs.Ytlbckkagjekhnaa.A
open Go.RowKit Go.Proofs.YtlbckkagjekhnaaW.PrintWords Go.Proofs.YtlbckkagjekhnaaW.PrintLast Go.Proofs.YtlbckkagjekhnaaW.PrintMore
set_option linter.unusedVariables false
set_option linter.unusedSimpArgs false
theorem add_zero_in (c : Cb) (h : inCb c 0 7 = true) : addC c ⟨0, 0, 0⟩ = c := by
  rw [inCb_iff] at h
  unfold addC
  rw [wrap_id (by simp; omega) (by simp; omega), wrap_id (by simp; omega) (by simp; omega), wrap_id (by simp; omega) (by simp; omega)]
  simp
theorem map_zero_in (p : List Cb) (h : ∀ c ∈ p, inCb c 0 7 = true) : (p.map fun c => addC c ⟨0, 0, 0⟩) = p := by
  have : p.map (fun c => addC c ⟨0, 0, 0⟩) = p.map id := List.map_congr_left (fun c hc => add_zero_in c (h c hc))
  rw [this, List.map_id]
theorem all_at (p : List Cb) (q : Cb → Bool) : (List.range p.length).all (fun c => q (cAt p c)) = p.all q := by
  rw [Bool.eq_iff_iff, List.all_eq_true, List.all_eq_true]
  constructor
  · intro h c hc
    obtain ⟨i, hi, rfl⟩ := List.mem_iff_getElem.1 hc
    have := h i (List.mem_range.2 hi)
    rw [show cAt p i = p[i] by simp [cAt, List.getD_eq_getElem?_getD, hi]] at this
    exact this
  · intro h i hi
    have hl := List.mem_range.1 hi
    rw [show cAt p i = p[i] by simp [cAt, List.getD_eq_getElem?_getD, hl]]
    exact h _ (List.getElem_mem _)
theorem any_not_all (p : List Cb) (q : Cb → Bool) : (!p.any fun c => !q c) = p.all q := by
  rw [Bool.eq_iff_iff]
  simp
theorem part_ok (sol con : List Cb → Bool) (p : List Cb) (h : partOk sol con p = true) : sol p = true ∧ con p = true ∧ ∀ c ∈ p, inCb c 0 7 = true := by
  unfold partOk at h
  rw [any_not_all, Bool.and_eq_true, Bool.and_eq_true, List.all_eq_true] at h
  exact ⟨h.1, h.2.1, h.2.2⟩
theorem asm_eq (parts : List (List Cb)) : (parts.all (partOk solP conP) && clearP parts (zerosC parts.length)) = (List.range parts.length).all (rowOk parts) := by
  by_cases c : parts.all (partOk solP conP) = true
  · rw [c, Bool.true_and]
    have hp : ∀ p ∈ parts, partOk solP conP p = true := List.all_eq_true.1 c
    have hzl : (zerosC parts.length).length = parts.length := List.length_replicate
    unfold clearP
    rw [hzl, Bool.eq_iff_iff, List.all_eq_true, List.all_eq_true]
    refine forall_congr' fun i => forall_congr' fun hi => ?_
    have hlt := List.mem_range.1 hi
    rw [show (zerosC parts.length).getD i ⟨0, 0, 0⟩ = oAt (zerosC parts.length) i from rfl, alone_eq parts _ i (by omega)]
    obtain ⟨a1, a2, a3⟩ := part_ok _ _ _ (hp _ (pAt_mem parts i hlt))
    unfold rowOk
    rw [a1, a2, all_at (pAt parts i) (fun c => inCb c 0 7), List.all_eq_true.2 a3, Bool.true_and, Bool.true_and, Bool.true_and]
    have : ∀ j ∈ List.range i, (!pairT parts (zerosC parts.length) i j) = (!meetS (pAt parts i) (pAt parts j)) := fun j hj => by
      have hj' := List.mem_range.1 hj
      obtain ⟨_, _, b3⟩ := part_ok _ _ _ (hp _ (pAt_mem parts j (by omega)))
      congr 1
      unfold pairT touchP meetS
      rw [zeros_at, zeros_at, ← pair_same _ _ _ _ a3 b3 (by decide) (by decide), map_zero_in _ a3, map_zero_in _ b3]
    rw [List.all_eq_true, List.all_eq_true]
    constructor
    · intro h j hj
      rw [← this j hj]; exact h j hj
    · intro h j hj
      rw [this j hj]; exact h j hj
  · have h0 := Bool.eq_false_iff.mpr c
    rw [h0, Bool.false_and]
    symm
    rw [Bool.eq_false_iff]
    intro hall
    rw [List.all_eq_true] at hall
    refine c (List.all_eq_true.2 fun p hp => ?_)
    obtain ⟨i, hi, rfl⟩ := List.mem_iff_getElem.1 hp
    have h1 := hall i (List.mem_range.2 hi)
    have e : pAt parts i = parts[i] := by unfold pAt partAt; simp [hi]
    unfold rowOk at h1
    rw [e, all_at parts[i] (fun c => inCb c 0 7), Bool.and_eq_true, Bool.and_eq_true, Bool.and_eq_true] at h1
    unfold partOk
    rw [any_not_all, h1.1, h1.2.1, h1.2.2.1]
    rfl
theorem asm_same (parts : List (List Cb)) : asmS parts = isAsmP solP conP parts := by
  unfold asmS isAsmP
  rw [asm_eq]
end Go.Proofs.Ytlbckkagjekhnaa.A

/- Arguments of a law opened as plain data, kind by kind: what can be read at a type is a value of its kind. -/
namespace Go.Proofs.Ytlbckkagjekhnaa.Opn
open Go.RowKit Go.Proofs.YtlbckkagjekhnaaW.PrintWords
/-- What reads at type t is a value of kind d, of which ok holds. -/
def Op {α : Type} (P : Program) (t : TypeId) (d : Kd α) (ok : α → Prop) : Prop :=
  ∀ (H : Type) (enc : TypeId × Value → H) (W : World) (fuel : Nat) (cs : List Value) (x : DataW H × List MemPlace),
    DataW.trod enc P W 0 (fun _ => true) true fuel t cs = some x → ∃ a : α, d.K W a cs ∧ ok a
/-- The same of a struct's fields from one on, which begins at cell o. -/
def OpF {α : Type} (P : Program) (o : Nat) (fs : List Field) (d : Kd α) (ok : α → Prop) : Prop :=
  ∀ (H : Type) (enc : TypeId × Value → H) (W : World) (fuel : Nat) (cs : List Value) (xs : List (DataW H × List MemPlace)), cs.length = o + d.sz →
    xs.length = fs.length → (∀ (i : Nat) (f : Field), fs[i]? = some f → DataW.trod enc P W 0 (fun _ => true) true fuel f.type ((cs.drop f.offset).take (P.cellsOf f.type)) = xs[i]?) → ∃ a : α, d.K W a (cs.drop o) ∧ ok a
def okInt (k : IntKind) (n : Int) : Prop := (Lit.int k n).wf = true
def okAll {α : Type} (ok : α → Prop) (l : List α) : Prop := l.length ≤ maxLen ∧ ∀ x ∈ l, ok x
def okTwo {α β : Type} (ok : α → Prop) (ok' : β → Prop) (x : α × β) : Prop := ok x.1 ∧ ok' x.2
theorem Op.int {P : Program} {t : TypeId} {k : IntKind} (ht : P.underlying t = some (.int k)) : Op P t (Kd.int k) (okInt k) := by
  intro H enc W fuel cs x h
  obtain ⟨n, rfl, _, hw⟩ := DataW.trod_int ht h
  exact ⟨n, rfl, hw⟩
theorem Op.bool {P : Program} {t : TypeId} (ht : P.underlying t = some .bool) : Op P t Kd.bool (fun _ => True) := by
  intro H enc W fuel cs x h
  obtain ⟨b, rfl, _⟩ := DataW.trod_bool ht h
  exact ⟨b, rfl, trivial⟩
theorem Op.iso {α β : Type} {P : Program} {t : TypeId} {d : Kd α} {ok : α → Prop} (h : Op P t d ok) (f : β → α) (g : α → β) (hfg : ∀ a, f (g a) = a) : Op P t (Kd.iso d f) (fun b => ok (f b)) := by
  intro H enc W fuel cs x hx
  obtain ⟨a, ha, hok⟩ := h H enc W fuel cs x hx
  refine ⟨g a, ?_, ?_⟩
  · show d.K W (f (g a)) cs
    rw [hfg]
    exact ha
  · show ok (f (g a))
    rw [hfg]
    exact hok
theorem list_of_lt {α : Type} {p : Nat → α → Prop} : ∀ n, (∀ i, i < n → ∃ a, p i a) → ∃ l : List α, l.length = n ∧ ∀ i a, l[i]? = some a → p i a
  | 0, _ => ⟨[], rfl, fun i a h => by simp at h⟩
  | n + 1, h => by
    obtain ⟨l, hl, hp⟩ := list_of_lt n (fun i hi => h i (by omega))
    obtain ⟨a, ha⟩ := h n (by omega)
    refine ⟨l ++ [a], by simp [hl], fun i b hb => ?_⟩
    by_cases hi : i < l.length
    · rw [List.getElem?_append_left hi] at hb
      exact hp i b hb
    · have hlt : i < (l ++ [a]).length := (List.getElem?_eq_some_iff.1 hb).1
      simp at hlt
      have : i = l.length := by omega
      subst this
      have hab : a = b := by simpa using hb
      subst hab
      rw [hl]
      exact ha
theorem Op.slice {α : Type} {P : Program} {t e : TypeId} {d : Kd α} {ok : α → Prop} (ht : P.underlying t = some (.slice e)) (hc : P.cellsOf e = d.sz) (h : Op P e d ok) :
    Op P t (Kd.slice e d) (okAll ok) := by
  intro H enc W fuel cs x hx
  rcases Deep.open_slice ht hx with ⟨rfl, _⟩ | ⟨a, len, cap, m, n, D, Pl, rfl, hb, hl, hm, hmm, _, hel⟩
  · exact ⟨[], ⟨none, 0, rfl, Nat.le_refl _, rfl, by simp, fun h => absurd h (by simp)⟩, by simp [okAll]⟩
  · rw [if_pos rfl] at hmm
    subst hmm
    obtain ⟨l, hlen, hl2⟩ := list_of_lt (p := fun i (y : α) => (∃ c, c.length = d.sz ∧ d.K W y c ∧ ∀ j u, c[j]? = some u → W.cell? (a.add (i * d.sz + j)) = some u) ∧ ok y) len (fun i hi => by
      obtain ⟨cs', h1, h2⟩ := hel i (by omega)
      obtain ⟨y, hy, hok⟩ := h H enc W n cs' _ h2
      obtain ⟨_, h3, h4⟩ := World.cells?_some h1
      refine ⟨y, ⟨cs', d.K_len hy, hy, fun j u hu => ?_⟩, hok⟩
      have hj : j < P.cellsOf e := by rw [← h3]; exact (List.getElem?_eq_some_iff.1 hu).1
      have h5 := h4 j hj
      rw [← hu, ← h5, hc, Addr.add_add])
    unfold maxLen at hm
    refine ⟨l, ⟨some a, m, by rw [hlen], by omega, rfl, by omega, fun _ => ⟨a, rfl, fun j p hj => (hl2 j p hj).1⟩⟩, by unfold maxLen; omega, fun y hy => ?_⟩
    obtain ⟨i, hi, rfl⟩ := List.getElem_of_mem hy
    exact (hl2 i _ (List.getElem?_eq_getElem hi)).2
theorem OpF.one {α : Type} {P : Program} {o : Nat} {f : Field} {d : Kd α} {ok : α → Prop} (ho : f.offset = o) (hc : P.cellsOf f.type = d.sz) (h : Op P f.type d ok) : OpF P o [f] d ok := by
  intro H enc W fuel cs xs hl hn hx
  match xs, hn with
  | [y], _ =>
  have hy := hx 0 f rfl
  simp only [List.getElem?_cons_zero] at hy
  rw [ho, hc, List.take_of_length_le (by simp; omega)] at hy
  exact h H enc W fuel _ _ hy
theorem OpF.cons {α β : Type} {P : Program} {o : Nat} {f : Field} {fs : List Field} {d : Kd α} {d' : Kd β} {ok : α → Prop} {ok' : β → Prop} (ho : f.offset = o) (hc : P.cellsOf f.type = d.sz) (h : Op P f.type d ok)
    (hr : OpF P (o + d.sz) fs d' ok') : OpF P o (f :: fs) (Kd.pair d d') (okTwo ok ok') := by
  intro H enc W fuel cs xs hl hn hx
  match xs, hn with
  | y :: ys, hn =>
  have hy := hx 0 f rfl
  have hys : ∀ (i : Nat) (f : Field), fs[i]? = some f → DataW.trod enc P W 0 (fun _ => true) true fuel f.type ((cs.drop f.offset).take (P.cellsOf f.type)) = ys[i]? := fun i g hg => by simpa using hx (i + 1) g (by simpa using hg)
  simp only [List.getElem?_cons_zero] at hy
  rw [ho, hc] at hy
  obtain ⟨a, ha, hok⟩ := h H enc W fuel _ _ hy
  obtain ⟨b, hb, hok'⟩ := hr H enc W fuel cs ys (by rw [hl]; show o + (d.sz + d'.sz) = _; omega) (by simpa using hn) hys
  refine ⟨(a, b), ⟨_, _, ?_, ha, hb⟩, hok, hok'⟩
  rw [← List.drop_drop, List.take_append_drop]
theorem Op.struct {α : Type} {P : Program} {t : TypeId} {fs : Array Field} {d : Kd α} {ok : α → Prop} (ht : P.underlying t = some (.struct fs)) (hc : P.cellsOf t = d.sz) (h : OpF P 0 fs.toList d ok) : Op P t d ok := by
  intro H enc W fuel cs x hx
  obtain ⟨xs, n, _, _, hl, hn, hxs⟩ := DataW.trod_struct ht hx
  obtain ⟨a, ha, hok⟩ := h H enc W n cs xs (by omega) (by simpa using hn) (fun i f hf => hxs i f (by simpa using hf))
  exact ⟨a, by simpa using ha, hok⟩
end Go.Proofs.Ytlbckkagjekhnaa.Opn

namespace Go.Proofs.Ytlbckkagjekhnaa.A
open Go.RowKit Go.Proofs.YtlbckkagjekhnaaW.PrintWords Go.Proofs.YtlbckkagjekhnaaW.PrintLast Go.Proofs.YtlbckkagjekhnaaW.PrintMore
attribute [local go_sem] max2_int min2_int max_two min_two max_three min_three max_four min_four   -- for this text's walks alone
set_option linter.unusedVariables false
set_option linter.unusedSimpArgs false
def laws_szCubeS.f (l0 : List (S71)) (a1 : Int) : Option (Int) := if (wrap64 (a1 - (l0.length : Int))) < 0 then (some (-1)) else (some (wrap64 (a1 - (l0.length : Int))))
set_option maxHeartbeats 8000000 in
set_option maxRecDepth 100000 in
theorem laws_szCubeS.calls (A0 : Option Addr) (c0 : Nat) (l0 : List (S71)) (a1 : Int) (r : Int) (w : World) (hr0 : Kd.C k71 w A0 l0.length l0) (hc0 : l0.length ≤ c0) (h : laws_szCubeS.f l0 a1 = some r) :
    Calls Try.prog 11 #[.slice A0 l0.length c0, .int .i64 a1] w fun e w' => e = .returned (.int .i64 r) ∧ Drawn0 w w' := by
 (have HR0 := A0_ hr0); (have HC0 := A0_ hc0); clear hr0 hc0; (have H : (if (wrap64 (a1 - (l0.length : Int))) < 0 then (some (-1)) else (some (wrap64 (a1 - (l0.length : Int))))) = some r := h); clear h; (by_cases c3 : (wrap64 (a1 - (l0.length : Int))) < 0)
 ·(rw [if_pos c3] at H); (have c3b0 : decide ((wrap64 (a1 - (l0.length : Int))) < 0) = true := decide_eq_true c3); clear c3; (obtain rfl := Option.some.inj H); (go_enter Try.func11, Try.ntmps11); go_wp2; go_ret; (exact ⟨by first | rfl | (simp; done) | (simp [*]; done), by repeat (first | exact Drawn0.refl _ | apply Drawn0.step)⟩)
 ·(rw [if_neg c3] at H); (have c3b0 : decide ((wrap64 (a1 - (l0.length : Int))) < 0) = false := decide_eq_false c3); clear c3; (obtain rfl := Option.some.inj H); (go_enter Try.func11, Try.ntmps11); go_wp2; go_ret; (exact ⟨by first | rfl | (simp; done) | (simp [*]; done), by repeat (first | exact Drawn0.refl _ | apply Drawn0.step)⟩)
end Go.Proofs.Ytlbckkagjekhnaa.A

namespace Go.Proofs.Ytlbckkagjekhnaa.A
open Go.RowKit Go.Proofs.YtlbckkagjekhnaaW.PrintWords Go.Proofs.YtlbckkagjekhnaaW.PrintLast Go.Proofs.YtlbckkagjekhnaaW.PrintMore
attribute [local go_sem] max2_int min2_int max_two min_two max_three min_three max_four min_four   -- for this text's walks alone
set_option linter.unusedVariables false
set_option linter.unusedSimpArgs false
def laws_szCubeSS.l0 : Nat → List (List (S71)) → Int → Int → Option (Int)
  | 0, _, _, _ => none
  | k + 1, x0, x1, x5 => if x5 < (x0.length : Int) then (if 0 ≤ x5 then ((laws_szCubeS.f (rd_L2 x0 x5) x1).bind fun t102 => (if t102 < 0 then (some (-1)) else (laws_szCubeSS.l0 k x0 t102 (wrap64 (x5 + 1))))) else (none)) else (some x1)
def laws_szCubeSS.f (k : Nat) (l0 : List (List (S71))) (a1 : Int) : Option (Int) := if (wrap64 (a1 - (l0.length : Int))) < 0 then (some (-1)) else (laws_szCubeSS.l0 k l0 (wrap64 (a1 - (l0.length : Int))) 0)
set_option maxHeartbeats 8000000 in
set_option maxRecDepth 100000 in
theorem laws_szCubeSS.calls (k : Nat) (A0 : Option Addr) (c0 : Nat) (l0 : List (List (S71))) (a1 : Int) (r : Int) (w : World) (hr0 : Kd.C (Kd.slice 71 k71) w A0 l0.length l0) (hc0 : l0.length ≤ c0) (h : laws_szCubeSS.f k l0 a1 = some r) :
    Calls Try.prog 43 #[.slice A0 l0.length c0, .int .i64 a1] w fun e w' => e = .returned (.int .i64 r) ∧ Drawn0 w w' := by
 (have HR0 := A0_ hr0); (have HC0 := A0_ hc0); clear hr0 hc0; (have H : (if (wrap64 (a1 - (l0.length : Int))) < 0 then (some (-1)) else (laws_szCubeSS.l0 k l0 (wrap64 (a1 - (l0.length : Int))) 0)) = some r := h); clear h; (by_cases c3 : (wrap64 (a1 - (l0.length : Int))) < 0)
 ·(rw [if_pos c3] at H); (have c3b0 : decide ((wrap64 (a1 - (l0.length : Int))) < 0) = true := decide_eq_true c3); clear c3; (obtain rfl := Option.some.inj H); (go_enter Try.func43, Try.ntmps43); go_wp2; go_ret; (exact ⟨by first | rfl | (simp; done) | (simp [*]; done), by repeat (first | exact Drawn0.refl _ | apply Drawn0.step)⟩)
 ·(rw [if_neg c3] at H); (have c3b0 : decide ((wrap64 (a1 - (l0.length : Int))) < 0) = false := decide_eq_false c3); clear c3; (have H' := A0_ H); clear H; (go_enter Try.func43, Try.ntmps43); go_wp2
  go_loopg [1, 5] k (fun kq v1 v5 w' => ∃ (x1_1 : Int) (x5_1 : Int), v1 = .int .i64 x1_1 ∧ v5 = .int .i64 x5_1 ∧ Aside0 (laws_szCubeSS.l0 kq l0 x1_1 x5_1 = some r) ∧ Aside0 (kq ≤ k) ∧ Drawn0 w w')
  case atStart => exact ⟨(wrap64 (a1 - (l0.length : Int))), (0), (by first | rfl | (simp; done) | (simp [*]; done)), (by first | rfl | (simp; done) | (simp [*]; done)), H', ⟨Nat.le_refl _⟩, by repeat (first | exact Drawn0.refl _ | apply Drawn0.step)⟩
  case round =>
   clear H'; (try clear p2); (try clear c3); (try clear c3b0); (obtain ⟨x1_1, x5_1, rfl, rfl, HA, HK1, ⟨m1, rfl⟩⟩ := hrel)
   cases gk with
   | zero => exact absurd HA.out (by simp [laws_szCubeSS.l0])
   | succ k1 =>
    (have H := HA.out); clear HA; (simp only [laws_szCubeSS.l0] at H); (by_cases c4 : x5_1 < (l0.length : Int))
    ·(rw [if_pos c4] at H); (have c4b0 : decide (x5_1 < (l0.length : Int)) = true := decide_eq_true c4); clear c4; (by_cases c5 : 0 ≤ x5_1)
     ·(rw [if_pos c5] at H); (have c5b0 : decide (0 ≤ x5_1) = true := decide_eq_true c5); clear c5; (replace H := Option.bind_eq_some_iff.mp H); (obtain ⟨t102, A60, H⟩ := H); (try dsimp only at H); (have A6 := A0_ A60); clear A60; (have H0_ := A0_ H); clear H; (have p101 : 0 ≤ (x5_1 : Int) := of_decide_eq_true (by first | (with_reducible assumption) | assumption)); (have q101 : x5_1 < (l0.length : Int) := of_decide_eq_true (by first | (with_reducible assumption) | assumption)); (obtain ⟨ad101, A101_0, c101_0, e101, hx101_0, hl101_0, hi101_0⟩ := at_L2 HR0.out x5_1 p101 q101); (cases e101); (have HR101_0 := A0_ hi101_0); (have HC101_0 := A0_ hl101_0); clear hi101_0 hl101_0; (replace p101 := eq_true p101); (replace q101 := eq_true q101); (go_wp2_with (first | ((with_reducible refine gate_callee (f := 11) rfl ?_); refine goesL_ (some 23) rfl rfl Try.func11 (by kernel_rfl) rfl #[.slice A101_0 (rd_L2 l0 x5_1).length c101_0, .int .i64 x1_1] rfl (by (try simp only [List.map_toArray, List.map_cons, List.map_nil]); first | done | rfl | (simp only [List.length_drop, List.length_take]; rfl)) ?_; (with_reducible refine (laws_szCubeS.calls _ _ (rd_L2 l0 x5_1) x1_1 t102 _ ?side1 ?side2 A6.out).mono ?_); (case side1 => repeat (first | exact HR101_0.out | (with_reducible refine Kd.C_alloc ?_ _) | (with_reducible refine Kd.C_drewN ?_ _) | (with_reducible refine Kd.C_drew ?_))); (case side2 => exact HC101_0.out); rintro e w' ⟨rfl, ⟨nd, rfl⟩⟩; refine ⟨_, rfl, ?_⟩; refine Stop0.out ?_))); (refine Stop0.mk ?_); (have H := H0_.out); clear H0_; (by_cases c7 : t102 < 0)
      ·(rw [if_pos c7] at H); (have c7b0 : decide (t102 < 0) = true := decide_eq_true c7); clear c7; (obtain rfl := Option.some.inj H); go_wp2; go_ret; (exact ⟨by first | rfl | (simp; done) | (simp [*]; done), by repeat (first | exact Drawn0.refl _ | apply Drawn0.step)⟩)
      ·(rw [if_neg c7] at H); (have c7b0 : decide (t102 < 0) = false := decide_eq_false c7); clear c7; (have H' := A0_ H); clear H; go_wp2; (go_roundg k1)
       case measure => have := HK1.out; omega
       case rel => exact ⟨(t102), (wrap64 (x5_1 + 1)), (by first | rfl | (simp; done) | (simp [*]; done)), (by first | rfl | (simp; done) | (simp [*]; done)), H', ⟨by have := HK1.out; omega⟩, by repeat (first | exact Drawn0.refl _ | apply Drawn0.step)⟩
     ·(rw [if_neg c5] at H); (exact absurd H (by simp))
    ·(rw [if_neg c4] at H); (have c4b0 : decide (x5_1 < (l0.length : Int)) = false := decide_eq_false c4); clear c4; (obtain rfl := Option.some.inj H); go_wp2; go_ret; (exact ⟨by first | rfl | (simp; done) | (simp [*]; done), by repeat (first | exact Drawn0.refl _ | apply Drawn0.step)⟩)
end Go.Proofs.Ytlbckkagjekhnaa.A

namespace Go.Proofs.Ytlbckkagjekhnaa.A
open Go.RowKit Go.Proofs.YtlbckkagjekhnaaW.PrintWords Go.Proofs.YtlbckkagjekhnaaW.PrintLast Go.Proofs.YtlbckkagjekhnaaW.PrintMore
attribute [local go_sem] max2_int min2_int max_two min_two max_three min_three max_four min_four   -- for this text's walks alone
set_option linter.unusedVariables false
set_option linter.unusedSimpArgs false
def laws_szAssembly.f (k : Nat) (l0_0 : List (List (S71))) (a1 : Int) : Option (Int) := (laws_szCubeSS.f k l0_0 a1).bind fun t104 => (if t104 < 0 then (some (-1)) else (some t104))
set_option maxHeartbeats 8000000 in
set_option maxRecDepth 100000 in
theorem laws_szAssembly.calls (k : Nat) (A0_0 : Option Addr) (c0_0 : Nat) (l0_0 : List (List (S71))) (a1 : Int) (r : Int) (w : World) (hr0_0 : Kd.C (Kd.slice 71 k71) w A0_0 l0_0.length l0_0) (hc0_0 : l0_0.length ≤ c0_0) (h : laws_szAssembly.f k l0_0 a1 = some r) :
    Calls Try.prog 10 #[.agg #[.slice A0_0 l0_0.length c0_0], .int .i64 a1] w fun e w' => e = .returned (.int .i64 r) ∧ Below w.heap.size w w' := by
 (have hu24 := Try.underlying24); (have HR0_0 := A0_ hr0_0); (have HC0_0 := A0_ hc0_0); clear hr0_0 hc0_0; (have HB := A0_ (Below.refl w.heap.size w))
 have H : ((laws_szCubeSS.f k l0_0 a1).bind fun t104 => (if t104 < 0 then (some (-1)) else (some t104))) = some r := h
 clear h; (replace H := Option.bind_eq_some_iff.mp H); (obtain ⟨t104, A30, H⟩ := H); (try dsimp only at H); (have A3 := A0_ A30); clear A30; (have H0_ := A0_ H); clear H; (go_enter Try.func10, Try.ntmps10); (go_wp2_with (first | ((with_reducible refine gate_dst (N := 2) rfl ?_); refine box_event ?hg (N := 2) ?hd (cs := #[.slice A0_0 l0_0.length c0_0]) (t := 24) ?hr ?_; (case hd => rfl); (case hg => rfl); (case hr => first | (go_simp; done) | (go_simp; rfl)); intro gb103 hg w4 hbox hb; have n0_ := A0_ (below_step (by repeat (first | (with_reducible first | exact HB.out | apply ba_ | apply bn_ | apply bd_) | exact HB.out)) hb); have n1_ := A0_ (hbox); have n2_ := A0_ ((by rw [hg]; exact (below_size (by repeat (first | (with_reducible first | exact HB.out | apply ba_ | apply bn_ | apply bd_) | exact HB.out))) : w.heap.size ≤ gb103)); have n3_ := A0_ ((by rw [hg]; exact (below_size (by repeat (first | (with_reducible first | exact HB.out | apply ba_ | apply bn_ | apply bd_) | exact HB.out))) : w.heap.size ≤ gb103)); clear HB; have HB := n0_; have BK103 := n1_; have GW103 := n2_; have GE103 := n3_; clear n0_ n1_ n2_ n3_; clear hb hbox hg; have hcz5_0 : w4.cell? ⟨gb103, 0, none⟩ = some (.slice A0_0 l0_0.length c0_0) := (blk_cell BK103.out 0).trans rfl; have hfz5_0 := blk_frozen BK103.out 0) | ((with_reducible refine gate_callee (f := 43) rfl ?_); refine goesL_ (some 8) rfl rfl Try.func43 (by kernel_rfl) rfl #[.slice A0_0 l0_0.length c0_0, .int .i64 a1] rfl (by (try simp only [List.map_toArray, List.map_cons, List.map_nil]); first | done | rfl | (simp only [List.length_drop, List.length_take]; rfl)) ?_; (with_reducible refine (laws_szCubeSS.calls k _ _ l0_0 a1 t104 _ ?side1 ?side2 A3.out).mono ?_); (case side1 => repeat (first | exact (Kd.C_below HR0_0.out HB.out) | (with_reducible refine Kd.C_alloc ?_ _) | (with_reducible refine Kd.C_drewN ?_ _) | (with_reducible refine Kd.C_drew ?_))); (case side2 => exact HC0_0.out); rintro e w' ⟨rfl, ⟨nd, rfl⟩⟩; refine ⟨_, rfl, ?_⟩; refine Stop0.out ?_))); (refine Stop0.mk ?_); (have H := H0_.out); clear H0_; (by_cases c6 : t104 < 0)
 ·(rw [if_pos c6] at H); (have c6b0 : decide (t104 < 0) = true := decide_eq_true c6); clear c6; (obtain rfl := Option.some.inj H); go_wp2; go_ret; (exact ⟨by first | rfl | (simp [errW_none, errW_some] <;> rfl) | (simp [*, errW_none, errW_some] <;> rfl), by repeat (first | (with_reducible first | exact HB.out | apply ba_ | apply bn_ | apply bd_ | refine below_set ?_ GE103.out) | exact HB.out)⟩)
 ·(rw [if_neg c6] at H); (have c6b0 : decide (t104 < 0) = false := decide_eq_false c6); clear c6; (obtain rfl := Option.some.inj H); go_wp2; go_ret; (exact ⟨by first | rfl | (simp [errW_none, errW_some] <;> rfl) | (simp [*, errW_none, errW_some] <;> rfl), by repeat (first | (with_reducible first | exact HB.out | apply ba_ | apply bn_ | apply bd_ | refine below_set ?_ GE103.out) | exact HB.out)⟩)
end Go.Proofs.Ytlbckkagjekhnaa.A

namespace Go.Proofs.Ytlbckkagjekhnaa.A
open Go.RowKit Go.Proofs.YtlbckkagjekhnaaW.PrintWords Go.Proofs.YtlbckkagjekhnaaW.PrintLast Go.Proofs.YtlbckkagjekhnaaW.PrintMore
attribute [local go_sem] max2_int min2_int max_two min_two max_three min_three max_four min_four   -- for this text's walks alone
set_option linter.unusedVariables false
set_option linter.unusedSimpArgs false
def laws_toCube.f (a0_0 : Int) (a0_1 : Int) (a0_2 : Int) : Option (Int × Int × Int) := some (a0_0, a0_1, a0_2)
set_option maxHeartbeats 8000000 in
set_option maxRecDepth 100000 in
theorem laws_toCube.calls (a0_0 : Int) (a0_1 : Int) (a0_2 : Int) (r1 : Int) (r2 : Int) (r3 : Int) (w : World) (h : laws_toCube.f a0_0 a0_1 a0_2 = some (r1, r2, r3)) :
    Calls Try.prog 48 #[.agg #[.int .i64 a0_0, .int .i64 a0_1, .int .i64 a0_2]] w fun e w' => e = .returned (.agg #[.int .i64 r1, .int .i64 r2, .int .i64 r3]) ∧ Below w.heap.size w w' := by
 (have hu71 := Try.underlying71); (have hu69 := Try.underlying69); (have HB := A0_ (Below.refl w.heap.size w)); (have H : (some (a0_0, a0_1, a0_2)) = some (r1, r2, r3) := h); clear h; (simp only [Option.some.injEq, Prod.mk.injEq] at H); (obtain ⟨rfl, rfl, rfl⟩ := H); (go_enter Try.func48, Try.ntmps48); (go_wp2_with (first | ((with_reducible refine gate_dst (N := 1) rfl ?_); refine box_event ?hg (N := 1) ?hd (cs := #[.int .i64 a0_0, .int .i64 a0_1, .int .i64 a0_2]) (t := 71) ?hr ?_; (case hd => rfl); (case hg => rfl); (case hr => first | (go_simp; done) | (go_simp; rfl)); intro gb221 hg w2 hbox hb; have n0_ := A0_ (below_step (by repeat (first | (with_reducible first | exact HB.out | apply ba_ | apply bn_ | apply bd_) | exact HB.out)) hb); have n1_ := A0_ (hbox); have n2_ := A0_ ((by rw [hg]; exact (below_size (by repeat (first | (with_reducible first | exact HB.out | apply ba_ | apply bn_ | apply bd_) | exact HB.out))) : w.heap.size ≤ gb221)); have n3_ := A0_ ((by rw [hg]; exact (below_size (by repeat (first | (with_reducible first | exact HB.out | apply ba_ | apply bn_ | apply bd_) | exact HB.out))) : w.heap.size ≤ gb221)); clear HB; have HB := n0_; have BK221 := n1_; have GW221 := n2_; have GE221 := n3_; clear n0_ n1_ n2_ n3_; clear hb hbox hg) | ((with_reducible refine gate_dst (N := 2) rfl ?_); refine box_event ?hg (N := 2) ?hd (cs := #[.int .i64 0, .int .i64 0, .int .i64 0]) (t := 69) ?hr ?_; (case hd => rfl); (case hg => rfl); (case hr => first | (go_simp; done) | (go_simp; rfl)); intro gb222 hg w3 hbox hb; have n0_ := A0_ (blk_below (g := gb221) (o := .cells #[.int .i64 a0_0, .int .i64 a0_1, .int .i64 a0_2] 71 (0, 0)) (by (with_reducible repeat (first | apply gn_ | apply gd_ | apply ga_)); exact BK221.out) hb); have n1_ := A0_ (below_step (by repeat (first | (with_reducible first | exact HB.out | apply ba_ | apply bn_ | apply bd_ | refine below_set ?_ GE221.out) | exact HB.out)) hb); have n2_ := A0_ (hbox); have n3_ := A0_ ((by rw [hg]; exact (below_size (by repeat (first | (with_reducible first | exact HB.out | apply ba_ | apply bn_ | apply bd_ | refine below_set ?_ GE221.out) | exact HB.out))) : w.heap.size ≤ gb222)); have n4_ := A0_ ((by rw [hg]; exact (below_size (by repeat (first | (with_reducible first | exact HB.out | apply ba_ | apply bn_ | apply bd_ | refine below_set ?_ GE221.out) | exact HB.out))) : w.heap.size ≤ gb222)); have n5_ := A0_ ((by rw [hg]; exact Nat.ne_of_lt (blk_lt (g := gb221) (o := .cells #[.int .i64 a0_0, .int .i64 a0_1, .int .i64 a0_2] 71 (0, 0)) (by (with_reducible repeat (first | apply gn_ | apply gd_ | apply ga_)); exact BK221.out)) : gb221 ≠ gb222)); have n6_ := A0_ ((by rw [hg]; exact Nat.ne_of_gt (blk_lt (g := gb221) (o := .cells #[.int .i64 a0_0, .int .i64 a0_1, .int .i64 a0_2] 71 (0, 0)) (by (with_reducible repeat (first | apply gn_ | apply gd_ | apply ga_)); exact BK221.out)) : gb222 ≠ gb221)); clear BK221; clear HB; have BK221 := n0_; have HB := n1_; have BK222 := n2_; have GW222 := n3_; have GE222 := n4_; have NB221_222 := n5_; have NB222_221 := n6_; clear n0_ n1_ n2_ n3_ n4_ n5_ n6_; clear hb hbox hg) | ((with_reducible refine gate_dst (N := 3) rfl ?_); refine box_event ?hg (N := 3) ?hd (cs := #[.int .i64 0, .int .i64 0, .int .i64 0]) (t := 69) ?hr ?_; (case hd => rfl); (case hg => rfl); (case hr => first | (go_simp; done) | (go_simp; rfl)); intro gb223 hg w4 hbox hb; have n0_ := A0_ (blk_below (g := gb221) (o := .cells #[.int .i64 a0_0, .int .i64 a0_1, .int .i64 a0_2] 71 (0, 0)) (by (with_reducible repeat (first | apply gn_ | apply gd_ | apply ga_)); exact BK221.out) hb); have n1_ := A0_ (blk_below (g := gb222) (o := .cells #[.int .i64 0, .int .i64 0, .int .i64 0] 69 (0, 0)) (by (with_reducible repeat (first | apply gn_ | apply gd_ | apply ga_)); exact BK222.out) hb); have n2_ := A0_ (below_step (by repeat (first | (with_reducible first | exact HB.out | apply ba_ | apply bn_ | apply bd_ | refine below_set ?_ GE221.out | refine below_set ?_ GE222.out) | exact HB.out)) hb); have n3_ := A0_ (hbox); have n4_ := A0_ ((by rw [hg]; exact (below_size (by repeat (first | (with_reducible first | exact HB.out | apply ba_ | apply bn_ | apply bd_ | refine below_set ?_ GE221.out | refine below_set ?_ GE222.out) | exact HB.out))) : w.heap.size ≤ gb223)); have n5_ := A0_ ((by rw [hg]; exact (below_size (by repeat (first | (with_reducible first | exact HB.out | apply ba_ | apply bn_ | apply bd_ | refine below_set ?_ GE221.out | refine below_set ?_ GE222.out) | exact HB.out))) : w.heap.size ≤ gb223)); have n6_ := A0_ ((by rw [hg]; exact Nat.ne_of_lt (blk_lt (g := gb221) (o := .cells #[.int .i64 a0_0, .int .i64 a0_1, .int .i64 a0_2] 71 (0, 0)) (by (with_reducible repeat (first | apply gn_ | apply gd_ | apply ga_)); exact BK221.out)) : gb221 ≠ gb223)); have n7_ := A0_ ((by rw [hg]; exact Nat.ne_of_gt (blk_lt (g := gb221) (o := .cells #[.int .i64 a0_0, .int .i64 a0_1, .int .i64 a0_2] 71 (0, 0)) (by (with_reducible repeat (first | apply gn_ | apply gd_ | apply ga_)); exact BK221.out)) : gb223 ≠ gb221)); have n8_ := A0_ ((by rw [hg]; exact Nat.ne_of_lt (blk_lt (g := gb222) (o := .cells #[.int .i64 0, .int .i64 0, .int .i64 0] 69 (0, 0)) (by (with_reducible repeat (first | apply gn_ | apply gd_ | apply ga_)); exact BK222.out)) : gb222 ≠ gb223)); have n9_ := A0_ ((by rw [hg]; exact Nat.ne_of_gt (blk_lt (g := gb222) (o := .cells #[.int .i64 0, .int .i64 0, .int .i64 0] 69 (0, 0)) (by (with_reducible repeat (first | apply gn_ | apply gd_ | apply ga_)); exact BK222.out)) : gb223 ≠ gb222)); clear BK221; clear BK222; clear HB; have BK221 := n0_; have BK222 := n1_; have HB := n2_; have BK223 := n3_; have GW223 := n4_; have GE223 := n5_; have NB221_223 := n6_; have NB223_221 := n7_; have NB222_223 := n8_; have NB223_222 := n9_; clear n0_ n1_ n2_ n3_ n4_ n5_ n6_ n7_ n8_ n9_; clear hb hbox hg; have hnb5 := NB221_222.out; have hnc5 := NB222_221.out; have hnb6 := NB221_223.out; have hnc6 := NB223_221.out; have hcz7_0 : w4.cell? ⟨gb221, 0, none⟩ = some (.int .i64 a0_0) := (blk_cell BK221.out 0).trans rfl; have hcz7_1 : w4.cell? ⟨gb221, 1, none⟩ = some (.int .i64 a0_1) := (blk_cell BK221.out 1).trans rfl; have hcz7_2 : w4.cell? ⟨gb221, 2, none⟩ = some (.int .i64 a0_2) := (blk_cell BK221.out 2).trans rfl; have hfz7_0 := blk_frozen BK221.out 0; have hfz7_1 := blk_frozen BK221.out 1; have hfz7_2 := blk_frozen BK221.out 2; have hnb8 := NB223_222.out; have hnc8 := NB222_223.out; have hcz9_0 : w4.cell? ⟨gb223, 0, none⟩ = some (.int .i64 0) := (blk_cell BK223.out 0).trans rfl; have hcz9_1 : w4.cell? ⟨gb223, 1, none⟩ = some (.int .i64 0) := (blk_cell BK223.out 1).trans rfl; have hcz9_2 : w4.cell? ⟨gb223, 2, none⟩ = some (.int .i64 0) := (blk_cell BK223.out 2).trans rfl; have hfz9_0 := blk_frozen BK223.out 0; have hfz9_1 := blk_frozen BK223.out 1; have hfz9_2 := blk_frozen BK223.out 2; have hcz10_0 : w4.cell? ⟨gb222, 0, none⟩ = some (.int .i64 0) := (blk_cell BK222.out 0).trans rfl; have hcz10_1 : w4.cell? ⟨gb222, 1, none⟩ = some (.int .i64 0) := (blk_cell BK222.out 1).trans rfl; have hcz10_2 : w4.cell? ⟨gb222, 2, none⟩ = some (.int .i64 0) := (blk_cell BK222.out 2).trans rfl; have hfz10_0 := blk_frozen BK222.out 0; have hfz10_1 := blk_frozen BK222.out 1; have hfz10_2 := blk_frozen BK222.out 2))); (refine bodyPost_ret (results_cell_row rfl _ _ gb222 69 #[.int .i64 a0_0, .int .i64 a0_1, .int .i64 a0_2] (0, 0) _ rfl (by (with_reducible repeat (first | apply gn_ | apply gd_ | apply ga_)); refine blk_put (cs := #[.int .i64 a0_0, .int .i64 a0_1, .int .i64 0]) ?_ 2 _ rfl; (with_reducible repeat (first | apply gn_ | apply gd_ | apply ga_)); refine blk_put (cs := #[.int .i64 a0_0, .int .i64 0, .int .i64 0]) ?_ 1 _ rfl; (with_reducible repeat (first | apply gn_ | apply gd_ | apply ga_)); refine blk_put (cs := #[.int .i64 0, .int .i64 0, .int .i64 0]) ?_ 0 _ rfl; (with_reducible repeat (first | apply gn_ | apply gd_ | apply ga_)); refine blk_far ?_ NB222_223.out _; (with_reducible repeat (first | apply gn_ | apply gd_ | apply ga_)); refine blk_far ?_ NB222_223.out _; (with_reducible repeat (first | apply gn_ | apply gd_ | apply ga_)); refine blk_far ?_ NB222_223.out _; (with_reducible repeat (first | apply gn_ | apply gd_ | apply ga_)); exact BK222.out) Try.underlying69 rfl (by kernel_rfl)) rfl ?_); (exact ⟨by first | rfl | (simp [errW_none, errW_some] <;> rfl) | (simp [*, errW_none, errW_some] <;> rfl), by repeat (first | (with_reducible first | exact HB.out | apply ba_ | apply bn_ | apply bd_ | refine below_set ?_ GE221.out | refine below_set ?_ GE222.out | refine below_set ?_ GE223.out) | exact HB.out)⟩)
end Go.Proofs.Ytlbckkagjekhnaa.A

namespace Go.Proofs.Ytlbckkagjekhnaa.A
open Go.RowKit Go.Proofs.YtlbckkagjekhnaaW.PrintWords Go.Proofs.YtlbckkagjekhnaaW.PrintLast Go.Proofs.YtlbckkagjekhnaaW.PrintMore
attribute [local go_sem] max2_int min2_int max_two min_two max_three min_three max_four min_four   -- for this text's walks alone
set_option linter.unusedVariables false
set_option linter.unusedSimpArgs false
def laws_toCubeS.l0 : Nat → List (S71) → List (S69) → Int → Option ((List (S69)))
  | 0, _, _, _ => none
  | k + 1, x0, x3, x4 => if x4 < (x0.length : Int) then (if 0 ≤ x4 then ((laws_toCube.f ((rd_T71 x0 x4).f0) ((rd_T71 x0 x4).f1) ((rd_T71 x0 x4).f2)).bind fun bt228 => (if x4 < (x3.length : Int) then (laws_toCubeS.l0 k x0 (x3.set (x4 : Int).toNat (⟨bt228.1, bt228.2.1, bt228.2.2⟩ : S69)) (wrap64 (x4 + 1))) else (none))) else (none)) else (some x3)
def laws_toCubeS.f (k : Nat) (l0 : List (S71)) : Option ((List (S69))) := if 0 ≤ (l0.length : Int) then (if ((l0.length : Int) : Int).toNat ≤ 11728124029610 then (laws_toCubeS.l0 k l0 (List.replicate ((l0.length : Int) : Int).toNat z69) 0) else (none)) else (none)
set_option maxHeartbeats 8000000 in
set_option maxRecDepth 100000 in
theorem laws_toCubeS.calls (k : Nat) (A0 : Option Addr) (c0 : Nat) (l0 : List (S71)) (r : List (S69)) (w : World) (hr0 : Kd.C k71 w A0 l0.length l0) (hc0 : l0.length ≤ c0) (h : laws_toCubeS.f k l0 = some r) :
    Calls Try.prog 14 #[.slice A0 l0.length c0] w fun e w' => ∃ v0_ : Value, e = .returned (v0_) ∧ Kd.R k69 69 w' w.heap.size (fun _ => True) v0_ r ∧ Below w.heap.size w w' := by
 (have hu71 := Try.underlying71); (have hu69 := Try.underlying69); (have HR0 := A0_ hr0); (have HC0 := A0_ hc0); clear hr0 hc0; (have HB := A0_ (Below.refl w.heap.size w)); (have H : (if 0 ≤ (l0.length : Int) then (if ((l0.length : Int) : Int).toNat ≤ 11728124029610 then (laws_toCubeS.l0 k l0 (List.replicate ((l0.length : Int) : Int).toNat z69) 0) else (none)) else (none)) = some r := h); clear h; (by_cases c2 : 0 ≤ (l0.length : Int))
 ·(rw [if_pos c2] at H); (have c2b0 := eq_true c2); (have c2b1 : decide (0 ≤ (l0.length : Int)) = true := decide_eq_true c2); clear c2; (by_cases c3 : ((l0.length : Int) : Int).toNat ≤ 11728124029610)
  ·(rw [if_pos c3] at H); (have c3b0 := eq_true c3); (have c3b1 : decide (((l0.length : Int) : Int).toNat ≤ 11728124029610) = true := decide_eq_true c3); clear c3; (obtain ⟨y224, hy224⟩ : ∃ y_ : List (S69), y_ = (List.replicate ((l0.length : Int) : Int).toNat z69) := ⟨_, rfl⟩); (replace H : (laws_toCubeS.l0 k l0 y224 0) = some r := by first | (rw [hy224]; with_reducible exact H) | (have H2_ := (Option.bind_some _ _).symm.trans H; rw [hy224]; with_reducible exact H2_) | (have H2_ := (Option.bind_some _ _).symm.trans H; with_reducible exact H2_) | with_reducible exact H | (rw [hy224]; exact H) | exact H); (have Ny224 := A0_ hy224); clear hy224; (have H' := A0_ H); clear H; (go_enter Try.func14, Try.ntmps14)
   go_wp2_with (first | ((with_reducible refine gate_dst (N := 7) rfl ?_); refine Kd.R_make k69 _ 69 rfl (N := 7) rfl 34 _ _ rfl (l0.length : Int) rfl rfl Try.underlying34 (.agg #[(.int .i64 0), (.int .i64 0), (.int .i64 0)]) 24 info69 rfl (by decide) (by omega) z69 (ok := fun _ => True) (okp := fun _ => True) (k69_mkM _ _ _ z69 ) (fun _ hk => hk) trivial (of_decide_eq_true (by first | (with_reducible assumption) | assumption)) (Nat.le_trans (Nat.mul_le_mul_right _ (of_decide_eq_true (by first | (with_reducible assumption) | assumption) : (l0.length : Int).toNat ≤ 11728124029610)) (by omega)) (Below.refl _ _) (Nat.le_refl _) ?_; intro v225 w4 ho5 hb hg_ hnew_; clear hg_ hnew_; (first | rw [← Ny224.out] at ho5 | (simp only [Int.reduceToNat] at ho5; rw [← Ny224.out] at ho5)); have n0_ := A0_ (Kd.R_lower ho5 (below_size (by repeat (first | (with_reducible first | exact HB.out | apply ba_ | apply bn_ | apply bd_) | exact HB.out)))); have n1_ := A0_ (below_step (by repeat (first | (with_reducible first | exact HB.out | apply ba_ | apply bn_ | apply bd_) | exact HB.out)) hb); clear HB; have HO226 := n0_; have HB := n1_; clear n0_ n1_; clear hb ho5))
   go_loopg [4] k (fun kq v4 w' => ∃ (x3_1 : List (S69)) (x4_1 : Int), v4 = .int .i64 x4_1 ∧ Aside0 (laws_toCubeS.l0 kq l0 x3_1 x4_1 = some r) ∧ Aside0 (kq ≤ k) ∧ Aside0 (Kd.R k69 69 w' w.heap.size (fun _ => True) v225 x3_1) ∧ Aside0 (Below w.heap.size w w'))
   case atStart => exact ⟨(y224), (0), (by first | rfl | (simp; done) | (simp [*]; done)), H', ⟨Nat.le_refl _⟩, ⟨by (with_reducible repeat (first | apply Ra_ | apply Rn_ | apply Rd_)); exact HO226.out⟩, ⟨by repeat (first | (with_reducible first | exact HB.out | apply ba_ | apply bn_ | apply bd_) | exact HB.out)⟩⟩
   case round =>
    clear H'; (try clear c1); (try clear c2); (try clear c2b0); (try clear c2b1); (try clear p2); (try clear c3); (try clear c3b0); (try clear c3b1); (obtain ⟨x3_1, x4_1, rfl, HA, HK1, HO_3, HB⟩ := hrel)
    cases gk with
    | zero => exact absurd HA.out (by simp [laws_toCubeS.l0])
    | succ k1 =>
     (have H := HA.out); clear HA; (simp only [laws_toCubeS.l0] at H); (by_cases c6 : x4_1 < (l0.length : Int))
     ·(rw [if_pos c6] at H); (have c6b0 : decide (x4_1 < (l0.length : Int)) = true := decide_eq_true c6); clear c6; (by_cases c7 : 0 ≤ x4_1)
      ·(rw [if_pos c7] at H); (have c7b0 : decide (0 ≤ x4_1) = true := decide_eq_true c7); clear c7; (replace H := Option.bind_eq_some_iff.mp H); (obtain ⟨⟨t228, t229, t230⟩, A80, H⟩ := H); (try dsimp only at H); (have A8 := A0_ A80); clear A80; (have H0_ := A0_ H); clear H; (have p227 : 0 ≤ (x4_1 : Int) := of_decide_eq_true (by first | (with_reducible assumption) | assumption)); (have q227 : x4_1 < (l0.length : Int) := of_decide_eq_true (by first | (with_reducible assumption) | assumption)); (obtain ⟨ad227, e227, hx227_0, hx227_1, hx227_2⟩ := at_T71 HR0.out x4_1 p227 q227); (cases e227); (replace hx227_0 := (HB.out.cell (World.block_lt_of_cell? w _ hx227_0)).trans hx227_0); (replace hx227_1 := (HB.out.cell (World.block_lt_of_cell? w _ hx227_1)).trans hx227_1); (replace hx227_2 := (HB.out.cell (World.block_lt_of_cell? w _ hx227_2)).trans hx227_2); (replace p227 := eq_true p227); (replace q227 := eq_true q227); (go_wp2_with (first | ((with_reducible refine gate_callee (f := 48) rfl ?_); refine goesL_ (some 20) rfl rfl Try.func48 (by kernel_rfl) rfl #[.agg #[.int .i64 ((rd_T71 l0 x4_1).f0), .int .i64 ((rd_T71 l0 x4_1).f1), .int .i64 ((rd_T71 l0 x4_1).f2)]] rfl (by (try simp only [List.map_toArray, List.map_cons, List.map_nil]); first | done | rfl | (simp only [List.length_drop, List.length_take]; rfl)) ?_; (with_reducible refine (laws_toCube.calls ((rd_T71 l0 x4_1).f0) ((rd_T71 l0 x4_1).f1) ((rd_T71 l0 x4_1).f2) t228 t229 t230 _ A8.out).mono ?_); rintro e w9 ⟨rfl, hb⟩; refine ⟨_, rfl, ?_⟩; have n0_ := A0_ (Kd.R_below (by (with_reducible repeat (first | apply Ra_ | apply Rn_ | apply Rd_)); exact HO_3.out) hb); have n1_ := A0_ (below_step (by repeat (first | (with_reducible first | exact HB.out | apply ba_ | apply bn_ | apply bd_) | exact HB.out)) hb); clear HO_3; clear HB; have HO_3 := n0_; have HB := n1_; clear n0_ n1_; (try clear hb); (try clear hb2); (try clear hk); (try clear hi); refine Stop0.out ?_))); (refine Stop0.mk ?_); (have H := H0_.out); clear H0_; (by_cases c10 : x4_1 < (x3_1.length : Int))
       ·(rw [if_pos c10] at H); (have c10b0 : decide (x4_1 < (x3_1.length : Int)) = true := decide_eq_true c10); clear c10; (obtain ⟨y231, hy231⟩ : ∃ y_ : List (S69), y_ = (x3_1.set (x4_1 : Int).toNat (⟨t228, t229, t230⟩ : S69)) := ⟨_, rfl⟩); (replace H : (laws_toCubeS.l0 k1 l0 y231 (wrap64 (x4_1 + 1))) = some r := by first | (rw [hy231]; with_reducible exact H) | (have H2_ := (Option.bind_some _ _).symm.trans H; rw [hy231]; with_reducible exact H2_) | (have H2_ := (Option.bind_some _ _).symm.trans H; with_reducible exact H2_) | with_reducible exact H | (rw [hy231]; exact H) | exact H); (have Ny231 := A0_ hy231); clear hy231; (have H' := A0_ H); clear H; (have p11 : 0 ≤ (x4_1 : Int) := of_decide_eq_true (by first | (with_reducible assumption) | assumption)); (have q11 : (x4_1 : Int) < ((x3_1.length : Int) : Int) := of_decide_eq_true (by first | (with_reducible assumption) | assumption)); (obtain ⟨go11, co11, eo11, gb11, gl11, cl11, HG11⟩ := Kd.R_form HO_3.out (by omega)); ((first | cases eo11 | (injection eo11 with ea_ en_ ec_; (first | subst ea_ | (injection ea_ with ea_; subst ea_)); subst ec_; clear en_))); (have GB11 := A0_ gb11); (have GG11 := A0_ HG11); clear gb11 gl11 HG11; (obtain ⟨ce11, hcl11, hM11, hcc11, hfr11⟩ := Kd.R_elem HO_3.out z69 (x4_1 : Int) p11 q11); (obtain rfl := k69_openM hM11); (have hx11_0 : w9.cell? ⟨go11, (x4_1 : Int).toNat * 3, none⟩ = some (.int .i64 ((rd_T69 x3_1 x4_1).f0)) := hcc11 0 _ rfl); (have hx11_1 : w9.cell? ⟨go11, (x4_1 : Int).toNat * 3 + 1, none⟩ = some (.int .i64 ((rd_T69 x3_1 x4_1).f1)) := hcc11 1 _ rfl); (have hx11_2 : w9.cell? ⟨go11, (x4_1 : Int).toNat * 3 + 2, none⟩ = some (.int .i64 ((rd_T69 x3_1 x4_1).f2)) := hcc11 2 _ rfl); (have hf11_0 : w9.frozen? ⟨go11, (x4_1 : Int).toNat * 3, none⟩ = false := hfr11 0); (have hf11_1 : w9.frozen? ⟨go11, (x4_1 : Int).toNat * 3 + 1, none⟩ = false := hfr11 1); (have hf11_2 : w9.frozen? ⟨go11, (x4_1 : Int).toNat * 3 + 2, none⟩ = false := hfr11 2); clear hcl11 hcc11 hfr11 hM11; (replace p11 := eq_true p11); (replace q11 := eq_true q11)
        have HX12 := A0_ (show Kd.R k69 69 w9 w.heap.size (fun _ => True) (.slice (some ⟨go11, 0, none⟩) x3_1.length co11) x3_1 from (by (with_reducible repeat (first | apply Ra_ | apply Rn_ | apply Rd_)); exact HO_3.out))
        (obtain ⟨ce12, hcl12, hM12, hcc12, hfr12⟩ := Kd.R_elem HX12.out z69 (x4_1 : Int) (of_decide_eq_true (by first | (with_reducible assumption) | assumption)) (by have h_ : (x4_1 : Int) < ((x3_1.length : Int) : Int) := of_decide_eq_true (by first | (with_reducible assumption) | assumption); first | exact h_ | (have e_ := (Kd.R_reads' HO_3.out).1; omega) | simpa using h_)); (obtain rfl := k69_openM hM12)
        have HP12 := Kd.R_seg HX12.out (x4_1 : Int) (of_decide_eq_true (by first | (with_reducible assumption) | assumption)) (by have h_ : (x4_1 : Int) < ((x3_1.length : Int) : Int) := of_decide_eq_true (by first | (with_reducible assumption) | assumption); first | exact h_ | (have e_ := (Kd.R_reads' HO_3.out).1; omega) | simpa using h_) (seg := [.int .i64 t228, .int .i64 t229, .int .i64 t230]) (j := 0) hcl12 hcc12 (show 3 ≤ 3 from by decide) (x' := (⟨t228, t229, t230⟩ : S69)) (k69_mkM _ _ _ (⟨t228, t229, t230⟩ : S69) ) (fun _ hk => hk)
        (have hx12_0 := hcc12 0 _ rfl); ((try simp only [show (k69).sz = 3 from rfl, Nat.mul_one, Nat.add_zero] at hx12_0)); (have hf12_0 := hfr12 0); ((try simp only [show (k69).sz = 3 from rfl, Nat.mul_one, Nat.add_zero] at hf12_0)); (have hx12_1 := hcc12 1 _ rfl); ((try simp only [show (k69).sz = 3 from rfl, Nat.mul_one, Nat.add_zero] at hx12_1)); (have hf12_1 := hfr12 1); ((try simp only [show (k69).sz = 3 from rfl, Nat.mul_one, Nat.add_zero] at hf12_1)); (have hx12_2 := hcc12 2 _ rfl); ((try simp only [show (k69).sz = 3 from rfl, Nat.mul_one, Nat.add_zero] at hx12_2)); (have hf12_2 := hfr12 2); ((try simp only [show (k69).sz = 3 from rfl, Nat.mul_one, Nat.add_zero] at hf12_2)); clear hcl12 hcc12 hfr12 hM12
        go_wp2_with (first | ((with_reducible refine gate_store (t := 69) (p := 21) rfl ?_); refine store_event (t := 69) (p := 21) (v := ?vo_w13) (w1 := (((w9.setCell ⟨go11, (x4_1 : Int).toNat * 3, none⟩ (.int .i64 t228)).setCell ⟨go11, (x4_1 : Int).toNat * 3 + 1, none⟩ (.int .i64 t229)).setCell ⟨go11, (x4_1 : Int).toNat * 3 + 2, none⟩ (.int .i64 t230))) ?hg ?ho ?hn ?hr ?_; (case ho => rfl); (case hg => rfl); (case hn => rfl); (case hr => first | (go_simp; done) | (go_simp; rfl)); intro w13 hw; have hg : w9.grownBy w13 (some go11) := (by rw [hw]; exact HP12.2); have hp_ : Kd.R k69 69 w13 w.heap.size (fun _ => True) (.slice (some ⟨go11, 0, none⟩) x3_1.length co11) y231 := (by rw [hw, Ny231.out]; exact HP12.1); clear HP12; have n0_ := A0_ (hp_); have n1_ := A0_ ((by rw [hw]; exact below_set (below_set (below_set (HB.out) GB11.out) GB11.out) GB11.out : Below w.heap.size w w13)); clear HO_3; clear HB; have HO_3 := n0_; have HB := n1_; clear n0_ n1_; clear hg hw hp_))
        (go_roundg k1)
        case measure => have := HK1.out; omega
        case rel => exact ⟨(y231), (wrap64 (x4_1 + 1)), (by first | rfl | (simp; done) | (simp [*]; done)), H', ⟨by have := HK1.out; omega⟩, ⟨by (with_reducible repeat (first | apply Ra_ | apply Rn_ | apply Rd_)); exact HO_3.out⟩, ⟨by repeat (first | (with_reducible first | exact HB.out | apply ba_ | apply bn_ | apply bd_) | exact HB.out)⟩⟩
       ·(rw [if_neg c10] at H); (exact absurd H (by simp))
      ·(rw [if_neg c7] at H); (exact absurd H (by simp))
     ·(rw [if_neg c6] at H); (have c6b0 : decide (x4_1 < (l0.length : Int)) = false := decide_eq_false c6); clear c6; (obtain rfl := Option.some.inj H); go_wp2; go_ret; (exact ⟨_, by first | rfl | (simp [errW_none, errW_some] <;> rfl) | (simp [*, errW_none, errW_some] <;> rfl), by (with_reducible repeat (first | apply Ra_ | apply Rn_ | apply Rd_)); exact HO_3.out, by repeat (first | (with_reducible first | exact HB.out | apply ba_ | apply bn_ | apply bd_) | exact HB.out)⟩)
  ·(rw [if_neg c3] at H); (exact absurd H (by simp))
 ·(rw [if_neg c2] at H); (exact absurd H (by simp))
end Go.Proofs.Ytlbckkagjekhnaa.A

namespace Go.Proofs.Ytlbckkagjekhnaa.A
open Go.RowKit Go.Proofs.YtlbckkagjekhnaaW.PrintWords Go.Proofs.YtlbckkagjekhnaaW.PrintLast Go.Proofs.YtlbckkagjekhnaaW.PrintMore
attribute [local go_sem] max2_int min2_int max_two min_two max_three min_three max_four min_four   -- for this text's walks alone
set_option linter.unusedVariables false
set_option linter.unusedSimpArgs false
def laws_toCubeSS.l0 : Nat → List (List (S71)) → List (List (S69)) → Int → Option ((List (List (S69))))
  | 0, _, _, _ => none
  | k + 1, x0, x3, x4 => if x4 < (x0.length : Int) then (if 0 ≤ x4 then ((laws_toCubeS.f k (rd_L2 x0 x4)).bind fun t236 => (if x4 < (x3.length : Int) then (laws_toCubeSS.l0 k x0 (x3.set (x4 : Int).toNat t236) (wrap64 (x4 + 1))) else (none))) else (none)) else (some x3)
def laws_toCubeSS.f (k : Nat) (l0 : List (List (S71))) : Option ((List (List (S69)))) := if 0 ≤ (l0.length : Int) then (if ((l0.length : Int) : Int).toNat ≤ 11728124029610 then (laws_toCubeSS.l0 k l0 (List.replicate ((l0.length : Int) : Int).toNat []) 0) else (none)) else (none)
set_option maxHeartbeats 8000000 in
set_option maxRecDepth 100000 in
theorem laws_toCubeSS.calls (k : Nat) (A0 : Option Addr) (c0 : Nat) (l0 : List (List (S71))) (r : List (List (S69))) (w : World) (hr0 : Kd.C (Kd.slice 71 k71) w A0 l0.length l0) (hc0 : l0.length ≤ c0) (h : laws_toCubeSS.f k l0 = some r) :
    Calls Try.prog 47 #[.slice A0 l0.length c0] w fun e w' => ∃ v0_ : Value, e = .returned (v0_) ∧ Kd.S (Kd.slice 69 k69) 34 w' w.heap.size (fun _ => True) v0_ r ∧ Below w.heap.size w w' := by
 (have HR0 := A0_ hr0); (have HC0 := A0_ hc0); clear hr0 hc0; (have HB := A0_ (Below.refl w.heap.size w)); (have H : (if 0 ≤ (l0.length : Int) then (if ((l0.length : Int) : Int).toNat ≤ 11728124029610 then (laws_toCubeSS.l0 k l0 (List.replicate ((l0.length : Int) : Int).toNat []) 0) else (none)) else (none)) = some r := h); clear h; (by_cases c2 : 0 ≤ (l0.length : Int))
 ·(rw [if_pos c2] at H); (have c2b0 := eq_true c2); (have c2b1 : decide (0 ≤ (l0.length : Int)) = true := decide_eq_true c2); clear c2; (by_cases c3 : ((l0.length : Int) : Int).toNat ≤ 11728124029610)
  ·(rw [if_pos c3] at H); (have c3b0 := eq_true c3); (have c3b1 : decide (((l0.length : Int) : Int).toNat ≤ 11728124029610) = true := decide_eq_true c3); clear c3; (obtain ⟨y232, hy232⟩ : ∃ y_ : List (List (S69)), y_ = (List.replicate ((l0.length : Int) : Int).toNat []) := ⟨_, rfl⟩); (replace H : (laws_toCubeSS.l0 k l0 y232 0) = some r := by first | (rw [hy232]; with_reducible exact H) | (have H2_ := (Option.bind_some _ _).symm.trans H; rw [hy232]; with_reducible exact H2_) | (have H2_ := (Option.bind_some _ _).symm.trans H; with_reducible exact H2_) | with_reducible exact H | (rw [hy232]; exact H) | exact H); (have Ny232 := A0_ hy232); clear hy232; (have H' := A0_ H); clear H; (go_enter Try.func47, Try.ntmps47)
   go_wp2_with (first | ((with_reducible refine gate_dst (N := 7) rfl ?_); refine Kd.S_make (Kd.slice 69 k69) _ 34 rfl (N := 7) rfl 28 _ _ rfl (l0.length : Int) rfl rfl Try.underlying28 (.slice none 0 0) 24 info34 rfl (by decide) (by omega) [] (ok := fun _ => True) (okp := fun _ => True) ⟨_, rfl, Kd.R_nil _ _ _ _ _⟩ (fun _ hk => hk) trivial (of_decide_eq_true (by first | (with_reducible assumption) | assumption)) (Nat.le_trans (Nat.mul_le_mul_right _ (of_decide_eq_true (by first | (with_reducible assumption) | assumption) : (l0.length : Int).toNat ≤ 11728124029610)) (by omega)) (Below.refl _ _) (Nat.le_refl _) ?_; intro v233 w4 ho5 hb hg_ hnew_; clear hg_ hnew_; (first | rw [← Ny232.out] at ho5 | (simp only [Int.reduceToNat] at ho5; rw [← Ny232.out] at ho5)); have n0_ := A0_ (Kd.S_lower ho5 (below_size (by repeat (first | (with_reducible first | exact HB.out | apply ba_ | apply bn_ | apply bd_) | exact HB.out)))); have n1_ := A0_ (below_step (by repeat (first | (with_reducible first | exact HB.out | apply ba_ | apply bn_ | apply bd_) | exact HB.out)) hb); clear HB; have HO234 := n0_; have HB := n1_; clear n0_ n1_; clear hb ho5))
   go_loopg [4] k (fun kq v4 w' => ∃ (x3_1 : List (List (S69))) (x4_1 : Int), v4 = .int .i64 x4_1 ∧ Aside0 (laws_toCubeSS.l0 kq l0 x3_1 x4_1 = some r) ∧ Aside0 (kq ≤ k) ∧ Aside0 (Kd.S (Kd.slice 69 k69) 34 w' w.heap.size (fun _ => True) v233 x3_1) ∧ Aside0 (Below w.heap.size w w'))
   case atStart => exact ⟨(y232), (0), (by first | rfl | (simp; done) | (simp [*]; done)), H', ⟨Nat.le_refl _⟩, ⟨by (with_reducible repeat (first | apply Kd.S_alloc | apply Kd.S_drewN | apply Kd.S_drew)); exact HO234.out⟩, ⟨by repeat (first | (with_reducible first | exact HB.out | apply ba_ | apply bn_ | apply bd_) | exact HB.out)⟩⟩
   case round =>
    clear H'; (try clear c2); (try clear c2b0); (try clear c2b1); (try clear p2); (try clear c3); (try clear c3b0); (try clear c3b1); (try clear c4); (obtain ⟨x3_1, x4_1, rfl, HA, HK1, HO_3, HB⟩ := hrel)
    cases gk with
    | zero => exact absurd HA.out (by simp [laws_toCubeSS.l0])
    | succ k1 =>
     (have H := HA.out); clear HA; (simp only [laws_toCubeSS.l0] at H); (by_cases c6 : x4_1 < (l0.length : Int))
     ·(rw [if_pos c6] at H); (have c6b0 : decide (x4_1 < (l0.length : Int)) = true := decide_eq_true c6); clear c6; (by_cases c7 : 0 ≤ x4_1)
      ·(rw [if_pos c7] at H); (have c7b0 : decide (0 ≤ x4_1) = true := decide_eq_true c7); clear c7; (replace H := Option.bind_eq_some_iff.mp H); (obtain ⟨t236, A80, H⟩ := H); (try dsimp only at H); (have A8 := A0_ A80); clear A80; (have H0_ := A0_ H); clear H; (have p235 : 0 ≤ (x4_1 : Int) := of_decide_eq_true (by first | (with_reducible assumption) | assumption)); (have q235 : x4_1 < (l0.length : Int) := of_decide_eq_true (by first | (with_reducible assumption) | assumption)); (obtain ⟨ad235, A235_0, c235_0, e235, hx235_0, hl235_0, hi235_0⟩ := at_L2 HR0.out x4_1 p235 q235); (cases e235); (replace hx235_0 := (HB.out.cell (World.block_lt_of_cell? w _ hx235_0)).trans hx235_0); (have HR235_0 := A0_ hi235_0); (have HC235_0 := A0_ hl235_0); clear hi235_0 hl235_0; (replace p235 := eq_true p235); (replace q235 := eq_true q235); (go_wp2_with (first | ((with_reducible refine gate_callee (f := 14) rfl ?_); refine goesL_ (some 20) rfl rfl Try.func14 (by kernel_rfl) rfl #[.slice A235_0 (rd_L2 l0 x4_1).length c235_0] rfl (by (try simp only [List.map_toArray, List.map_cons, List.map_nil]); first | done | rfl | (simp only [List.length_drop, List.length_take]; rfl)) ?_; (with_reducible refine (laws_toCubeS.calls k1 _ _ (rd_L2 l0 x4_1) t236 _ ?side1 ?side2 A8.out).mono ?_); (case side1 => repeat (first | exact (Kd.C_below HR235_0.out HB.out) | (with_reducible refine Kd.C_alloc ?_ _) | (with_reducible refine Kd.C_drewN ?_ _) | (with_reducible refine Kd.C_drew ?_))); (case side2 => exact HC235_0.out); rintro e w9 ⟨v237, rfl, ho0, hb⟩; refine ⟨_, rfl, ?_⟩; have n0_ := A0_ (Kd.S_elder' (by (with_reducible repeat (first | apply Kd.S_alloc | apply Kd.S_drewN | apply Kd.S_drew)); exact HO_3.out) (Kd.R_base ho0) hb); have n1_ := A0_ (Kd.R_lower ho0 (below_size (by repeat (first | (with_reducible first | exact HB.out | apply ba_ | apply bn_ | apply bd_) | exact HB.out)))); have n2_ := A0_ (below_step (by repeat (first | (with_reducible first | exact HB.out | apply ba_ | apply bn_ | apply bd_) | exact HB.out)) hb); clear HO_3; clear HB; have HO_3 := n0_; have HO238 := n1_; have HB := n2_; clear n0_ n1_ n2_; (try clear hb); (try clear hb2); (try clear hk); (try clear hi); (try clear ho0); refine Stop0.out ?_))); (refine Stop0.mk ?_); (have H := H0_.out); clear H0_; (by_cases c10 : x4_1 < (x3_1.length : Int))
       ·(rw [if_pos c10] at H); (have c10b0 : decide (x4_1 < (x3_1.length : Int)) = true := decide_eq_true c10); clear c10; (obtain ⟨y239, hy239⟩ : ∃ y_ : List (List (S69)), y_ = (x3_1.set (x4_1 : Int).toNat t236) := ⟨_, rfl⟩); (replace H : (laws_toCubeSS.l0 k1 l0 y239 (wrap64 (x4_1 + 1))) = some r := by first | (rw [hy239]; with_reducible exact H) | (have H2_ := (Option.bind_some _ _).symm.trans H; rw [hy239]; with_reducible exact H2_) | (have H2_ := (Option.bind_some _ _).symm.trans H; with_reducible exact H2_) | with_reducible exact H | (rw [hy239]; exact H) | exact H); (have Ny239 := A0_ hy239); clear hy239; (have H' := A0_ H); clear H; (have p11 : 0 ≤ (x4_1 : Int) := of_decide_eq_true (by first | (with_reducible assumption) | assumption)); (have q11 : (x4_1 : Int) < ((x3_1.length : Int) : Int) := of_decide_eq_true (by first | (with_reducible assumption) | assumption)); (obtain ⟨go11, co11, eo11, gb11, gl11, cl11, HG11⟩ := Kd.S_form HO_3.out (by omega)); ((first | cases eo11 | (injection eo11 with ea_ en_ ec_; (first | subst ea_ | (injection ea_ with ea_; subst ea_)); subst ec_; clear en_))); (have GB11 := A0_ gb11); (have GG11 := A0_ HG11); clear gb11 gl11 HG11; (obtain ⟨_, ce11, hcl11, hM11, hcc11, hfr11, _, _⟩ := Kd.S_elem HO_3.out [] (x4_1 : Int) p11 q11); (obtain ⟨ve11_0, rfl, ge11_0⟩ := hM11); (have hx11_0 := hcc11 0 _ rfl); (have hf11_0 := hfr11 0); ((try simp only [show ((Kd.slice 69 k69)).sz = 1 from rfl, Nat.mul_one, Nat.add_zero] at hx11_0)); ((try simp only [show ((Kd.slice 69 k69)).sz = 1 from rfl, Nat.mul_one, Nat.add_zero] at hf11_0)); clear hcl11 hcc11 hfr11; (replace p11 := eq_true p11); (replace q11 := eq_true q11)
        have n_ := A0_ (Kd.S_mono (ok' := (fun k_ => some k_ ≠ (v237 : Value).ownBlock)) HO_3.out (fun k_ hk => hk.2))
        clear HO_3; (have HO_3 := n_); clear n_
        have HX12 := A0_ (show Kd.S (Kd.slice 69 k69) 34 w9 w.heap.size (fun k_ => ((fun _ => True)) k_ ∧ ¬ ((fun k_ => some k_ = (v237 : Value).ownBlock)) k_) (.slice (some ⟨go11, 0, none⟩) x3_1.length co11) x3_1 from (by (with_reducible repeat (first | apply Kd.S_alloc | apply Kd.S_drewN | apply Kd.S_drew)); exact Kd.S_mono HO_3.out (fun k_ hk => ⟨trivial, fun e_ => hk e_⟩)))
        (obtain ⟨oki12, ce12, hcl12, hM12, hcc12, hfr12, hoki12, hH12⟩ := Kd.S_elem HX12.out [] (x4_1 : Int) (of_decide_eq_true (by first | (with_reducible assumption) | assumption)) (by have h_ : (x4_1 : Int) < ((x3_1.length : Int) : Int) := of_decide_eq_true (by first | (with_reducible assumption) | assumption); first | exact h_ | (have e_ := (Kd.S_reads' HO_3.out).1; omega) | simpa using h_)); (obtain ⟨ve12_0, rfl, ge12_0⟩ := hM12)
        have HP12 := Kd.S_seg hH12 (of_decide_eq_true (by first | (with_reducible assumption) | assumption)) (by have h_ : (x4_1 : Int) < ((x3_1.length : Int) : Int) := of_decide_eq_true (by first | (with_reducible assumption) | assumption); first | exact h_ | (have e_ := (Kd.S_reads' HO_3.out).1; omega) | simpa using h_) (seg := [v237]) (j := 0) (show 1 ≤ 1 from by decide) (x' := t236) (Kd.M_row (Kd.R_mono (Kd.R_tight rfl (Kd.R_mono (ok' := fun k_ => ((fun _ => True)) k_ ∧ k_ ≠ go11) (Kd.R_apart' (HO238.out) (Kd.S_typed HO_3.out) (by decide)) (fun k_ hk => ⟨trivial, fun e_ => (hk.2) (by rw [e_]; rfl)⟩))) (fun _ h_ => Or.inr (h_)))) (fun _ hk => hk) (fun k_ hk_ => ((Kd.R_mono (ok' := fun k_ => ((fun _ => True)) k_ ∧ k_ ≠ go11) (Kd.R_apart' (HO238.out) (Kd.S_typed HO_3.out) (by decide)) (fun k_ hk => ⟨trivial, fun e_ => (hk.2) (by rw [e_]; rfl)⟩))).1 k_ hk_.symm)
        (have hx12_0 := hcc12 0 _ rfl); ((try simp only [show ((Kd.slice 69 k69)).sz = 1 from rfl, Nat.mul_one, Nat.add_zero] at hx12_0)); (have hf12_0 := hfr12 0); ((try simp only [show ((Kd.slice 69 k69)).sz = 1 from rfl, Nat.mul_one, Nat.add_zero] at hf12_0)); clear hcl12 hcc12 hfr12 hoki12 hH12; ((try simp only [show ((Kd.slice 69 k69)).sz = 1 from rfl, Nat.mul_one, Nat.add_zero] at HP12))
        go_wp2_with (first | ((with_reducible refine gate_store (t := 34) (p := 21) rfl ?_); refine store_event (t := 34) (p := 21) (v := ?vo_w13) (w1 := (w9.setCell ⟨go11, (x4_1 : Int).toNat, none⟩ (v237))) ?hg ?ho ?hn ?hr ?_; (case ho => rfl); (case hg => rfl); (case hn => rfl); (case hr => obtain ⟨A_, c_, e_⟩ := Kd.R_slice HO238.out; rw [e_]; first | (go_simp; done) | (go_simp; rfl)); intro w13 hw; have hg : w9.grownBy w13 (some go11) := (by rw [hw]; exact HP12.2); have hp_ : Kd.S (Kd.slice 69 k69) 34 w13 w.heap.size (fun _ => True) (.slice (some ⟨go11, 0, none⟩) x3_1.length co11) y239 := (by rw [hw, Ny239.out]; exact HP12.1); clear HP12; have n0_ := A0_ (hp_); have n1_ := A0_ ((by rw [hw]; exact below_set (HB.out) GB11.out : Below w.heap.size w w13)); clear HO_3; clear HB; clear HO238; have HO_3 := n0_; have HB := n1_; clear n0_ n1_; clear hg hw hp_))
        (go_roundg k1)
        case measure => have := HK1.out; omega
        case rel => exact ⟨(y239), (wrap64 (x4_1 + 1)), (by first | rfl | (simp; done) | (simp [*]; done)), H', ⟨by have := HK1.out; omega⟩, ⟨by (with_reducible repeat (first | apply Kd.S_alloc | apply Kd.S_drewN | apply Kd.S_drew)); exact HO_3.out⟩, ⟨by repeat (first | (with_reducible first | exact HB.out | apply ba_ | apply bn_ | apply bd_) | exact HB.out)⟩⟩
       ·(rw [if_neg c10] at H); (exact absurd H (by simp))
      ·(rw [if_neg c7] at H); (exact absurd H (by simp))
     ·(rw [if_neg c6] at H); (have c6b0 : decide (x4_1 < (l0.length : Int)) = false := decide_eq_false c6); clear c6; (obtain rfl := Option.some.inj H); go_wp2; go_ret; (exact ⟨_, by first | rfl | (simp [errW_none, errW_some] <;> rfl) | (simp [*, errW_none, errW_some] <;> rfl), by (with_reducible repeat (first | apply Kd.S_alloc | apply Kd.S_drewN | apply Kd.S_drew)); exact HO_3.out, by repeat (first | (with_reducible first | exact HB.out | apply ba_ | apply bn_ | apply bd_) | exact HB.out)⟩)
  ·(rw [if_neg c3] at H); (exact absurd H (by simp))
 ·(rw [if_neg c2] at H); (exact absurd H (by simp))
end Go.Proofs.Ytlbckkagjekhnaa.A

namespace Go.Proofs.Ytlbckkagjekhnaa.A
open Go.RowKit Go.Proofs.YtlbckkagjekhnaaW.PrintWords Go.Proofs.YtlbckkagjekhnaaW.PrintLast Go.Proofs.YtlbckkagjekhnaaW.PrintMore
attribute [local go_sem] max2_int min2_int max_two min_two max_three min_three max_four min_four   -- for this text's walks alone
set_option linter.unusedVariables false
set_option linter.unusedSimpArgs false
def laws_toAssembly.f (k : Nat) (l0_0 : List (List (S71))) : Option ((List (List (S69)))) := (laws_toCubeSS.f k l0_0).bind fun t243 => (some t243)
set_option maxHeartbeats 8000000 in
set_option maxRecDepth 100000 in
theorem laws_toAssembly.calls (k : Nat) (A0_0 : Option Addr) (c0_0 : Nat) (l0_0 : List (List (S71))) (r : List (List (S69))) (w : World) (hr0_0 : Kd.C (Kd.slice 71 k71) w A0_0 l0_0.length l0_0) (hc0_0 : l0_0.length ≤ c0_0) (h : laws_toAssembly.f k l0_0 = some r) :
    Calls Try.prog 13 #[.agg #[.slice A0_0 l0_0.length c0_0]] w fun e w' => ∃ v0_ : Value, e = .returned (.agg #[v0_]) ∧ Kd.S (Kd.slice 69 k69) 34 w' w.heap.size (fun _ => True) v0_ r ∧ Below w.heap.size w w' := by
 (have hu24 := Try.underlying24); (have hu32 := Try.underlying32); (have HR0_0 := A0_ hr0_0); (have HC0_0 := A0_ hc0_0); clear hr0_0 hc0_0; (have HB := A0_ (Below.refl w.heap.size w))
 have H : ((laws_toCubeSS.f k l0_0).bind fun t243 => (some t243)) = some r := h
 clear h; (replace H := Option.bind_eq_some_iff.mp H); (obtain ⟨t243, A20, H⟩ := H); (try dsimp only at H); (have A2 := A0_ A20); clear A20; (have H0_ := A0_ H); clear H; (go_enter Try.func13, Try.ntmps13); (go_wp2_with (first | ((with_reducible refine gate_dst (N := 1) rfl ?_); refine box_event ?hg (N := 1) ?hd (cs := #[.slice A0_0 l0_0.length c0_0]) (t := 24) ?hr ?_; (case hd => rfl); (case hg => rfl); (case hr => first | (go_simp; done) | (go_simp; rfl)); intro gb240 hg w3 hbox hb; have n0_ := A0_ (below_step (by repeat (first | (with_reducible first | exact HB.out | apply ba_ | apply bn_ | apply bd_) | exact HB.out)) hb); have n1_ := A0_ (hbox); have n2_ := A0_ ((by rw [hg]; exact (below_size (by repeat (first | (with_reducible first | exact HB.out | apply ba_ | apply bn_ | apply bd_) | exact HB.out))) : w.heap.size ≤ gb240)); have n3_ := A0_ ((by rw [hg]; exact (below_size (by repeat (first | (with_reducible first | exact HB.out | apply ba_ | apply bn_ | apply bd_) | exact HB.out))) : w.heap.size ≤ gb240)); clear HB; have HB := n0_; have BK240 := n1_; have GW240 := n2_; have GE240 := n3_; clear n0_ n1_ n2_ n3_; clear hb hbox hg) | ((with_reducible refine gate_dst (N := 2) rfl ?_); refine box_event ?hg (N := 2) ?hd (cs := #[.slice none 0 0]) (t := 32) ?hr ?_; (case hd => rfl); (case hg => rfl); (case hr => first | (go_simp; done) | (go_simp; rfl)); intro gb241 hg w4 hbox hb; have n0_ := A0_ (blk_below (g := gb240) (o := .cells #[.slice A0_0 l0_0.length c0_0] 24 (0, 0)) (by (with_reducible repeat (first | apply gn_ | apply gd_ | apply ga_)); exact BK240.out) hb); have n1_ := A0_ (below_step (by repeat (first | (with_reducible first | exact HB.out | apply ba_ | apply bn_ | apply bd_ | refine below_set ?_ GE240.out) | exact HB.out)) hb); have n2_ := A0_ (hbox); have n3_ := A0_ ((by rw [hg]; exact (below_size (by repeat (first | (with_reducible first | exact HB.out | apply ba_ | apply bn_ | apply bd_ | refine below_set ?_ GE240.out) | exact HB.out))) : w.heap.size ≤ gb241)); have n4_ := A0_ ((by rw [hg]; exact (below_size (by repeat (first | (with_reducible first | exact HB.out | apply ba_ | apply bn_ | apply bd_ | refine below_set ?_ GE240.out) | exact HB.out))) : w.heap.size ≤ gb241)); have n5_ := A0_ ((by rw [hg]; exact Nat.ne_of_lt (blk_lt (g := gb240) (o := .cells #[.slice A0_0 l0_0.length c0_0] 24 (0, 0)) (by (with_reducible repeat (first | apply gn_ | apply gd_ | apply ga_)); exact BK240.out)) : gb240 ≠ gb241)); have n6_ := A0_ ((by rw [hg]; exact Nat.ne_of_gt (blk_lt (g := gb240) (o := .cells #[.slice A0_0 l0_0.length c0_0] 24 (0, 0)) (by (with_reducible repeat (first | apply gn_ | apply gd_ | apply ga_)); exact BK240.out)) : gb241 ≠ gb240)); clear BK240; clear HB; have BK240 := n0_; have HB := n1_; have BK241 := n2_; have GW241 := n3_; have GE241 := n4_; have NB240_241 := n5_; have NB241_240 := n6_; clear n0_ n1_ n2_ n3_ n4_ n5_ n6_; clear hb hbox hg) | ((with_reducible refine gate_dst (N := 3) rfl ?_); refine box_event ?hg (N := 3) ?hd (cs := #[.slice none 0 0]) (t := 32) ?hr ?_; (case hd => rfl); (case hg => rfl); (case hr => first | (go_simp; done) | (go_simp; rfl)); intro gb242 hg w5 hbox hb; have n0_ := A0_ (blk_below (g := gb240) (o := .cells #[.slice A0_0 l0_0.length c0_0] 24 (0, 0)) (by (with_reducible repeat (first | apply gn_ | apply gd_ | apply ga_)); exact BK240.out) hb); have n1_ := A0_ (blk_below (g := gb241) (o := .cells #[.slice none 0 0] 32 (0, 0)) (by (with_reducible repeat (first | apply gn_ | apply gd_ | apply ga_)); exact BK241.out) hb); have n2_ := A0_ (below_step (by repeat (first | (with_reducible first | exact HB.out | apply ba_ | apply bn_ | apply bd_ | refine below_set ?_ GE240.out | refine below_set ?_ GE241.out) | exact HB.out)) hb); have n3_ := A0_ (hbox); have n4_ := A0_ ((by rw [hg]; exact (below_size (by repeat (first | (with_reducible first | exact HB.out | apply ba_ | apply bn_ | apply bd_ | refine below_set ?_ GE240.out | refine below_set ?_ GE241.out) | exact HB.out))) : w.heap.size ≤ gb242)); have n5_ := A0_ ((by rw [hg]; exact (below_size (by repeat (first | (with_reducible first | exact HB.out | apply ba_ | apply bn_ | apply bd_ | refine below_set ?_ GE240.out | refine below_set ?_ GE241.out) | exact HB.out))) : w.heap.size ≤ gb242)); have n6_ := A0_ ((by rw [hg]; exact Nat.ne_of_lt (blk_lt (g := gb240) (o := .cells #[.slice A0_0 l0_0.length c0_0] 24 (0, 0)) (by (with_reducible repeat (first | apply gn_ | apply gd_ | apply ga_)); exact BK240.out)) : gb240 ≠ gb242)); have n7_ := A0_ ((by rw [hg]; exact Nat.ne_of_gt (blk_lt (g := gb240) (o := .cells #[.slice A0_0 l0_0.length c0_0] 24 (0, 0)) (by (with_reducible repeat (first | apply gn_ | apply gd_ | apply ga_)); exact BK240.out)) : gb242 ≠ gb240)); have n8_ := A0_ ((by rw [hg]; exact Nat.ne_of_lt (blk_lt (g := gb241) (o := .cells #[.slice none 0 0] 32 (0, 0)) (by (with_reducible repeat (first | apply gn_ | apply gd_ | apply ga_)); exact BK241.out)) : gb241 ≠ gb242)); have n9_ := A0_ ((by rw [hg]; exact Nat.ne_of_gt (blk_lt (g := gb241) (o := .cells #[.slice none 0 0] 32 (0, 0)) (by (with_reducible repeat (first | apply gn_ | apply gd_ | apply ga_)); exact BK241.out)) : gb242 ≠ gb241)); clear BK240; clear BK241; clear HB; have BK240 := n0_; have BK241 := n1_; have HB := n2_; have BK242 := n3_; have GW242 := n4_; have GE242 := n5_; have NB240_242 := n6_; have NB242_240 := n7_; have NB241_242 := n8_; have NB242_241 := n9_; clear n0_ n1_ n2_ n3_ n4_ n5_ n6_ n7_ n8_ n9_; clear hb hbox hg; have hnb6 := NB240_241.out; have hnc6 := NB241_240.out; have hnb7 := NB240_242.out; have hnc7 := NB242_240.out; have hcz8_0 : w5.cell? ⟨gb240, 0, none⟩ = some (.slice A0_0 l0_0.length c0_0) := (blk_cell BK240.out 0).trans rfl; have hfz8_0 := blk_frozen BK240.out 0) | ((with_reducible refine gate_callee (f := 47) rfl ?_); refine goesL_ (some 6) rfl rfl Try.func47 (by kernel_rfl) rfl #[.slice A0_0 l0_0.length c0_0] rfl (by (try simp only [List.map_toArray, List.map_cons, List.map_nil]); first | done | rfl | (simp only [List.length_drop, List.length_take]; rfl)) ?_; (with_reducible refine (laws_toCubeSS.calls k _ _ l0_0 t243 _ ?side1 ?side2 A2.out).mono ?_); (case side1 => repeat (first | exact (Kd.C_below HR0_0.out HB.out) | (with_reducible refine Kd.C_alloc ?_ _) | (with_reducible refine Kd.C_drewN ?_ _) | (with_reducible refine Kd.C_drew ?_))); (case side2 => exact HC0_0.out); rintro e w9 ⟨v244, rfl, ho0, hb⟩; refine ⟨_, rfl, ?_⟩; have n0_ := A0_ (Kd.S_lower ho0 (below_size (by repeat (first | (with_reducible first | exact HB.out | apply ba_ | apply bn_ | apply bd_ | refine below_set ?_ GE240.out | refine below_set ?_ GE241.out | refine below_set ?_ GE242.out) | exact HB.out)))); have n1_ := A0_ (blk_below (g := gb240) (o := .cells #[.slice A0_0 l0_0.length c0_0] 24 (0, 0)) (by (with_reducible repeat (first | apply gn_ | apply gd_ | apply ga_)); exact BK240.out) hb); have n2_ := A0_ (blk_below (g := gb241) (o := .cells #[.slice none 0 0] 32 (0, 0)) (by (with_reducible repeat (first | apply gn_ | apply gd_ | apply ga_)); exact BK241.out) hb); have n3_ := A0_ (blk_below (g := gb242) (o := .cells #[.slice none 0 0] 32 (0, 0)) (by (with_reducible repeat (first | apply gn_ | apply gd_ | apply ga_)); exact BK242.out) hb); have n4_ := A0_ (below_step (by repeat (first | (with_reducible first | exact HB.out | apply ba_ | apply bn_ | apply bd_ | refine below_set ?_ GE240.out | refine below_set ?_ GE241.out | refine below_set ?_ GE242.out) | exact HB.out)) hb); clear BK240; clear BK241; clear BK242; clear HB; have HO245 := n0_; have BK240 := n1_; have BK241 := n2_; have BK242 := n3_; have HB := n4_; clear n0_ n1_ n2_ n3_ n4_; (try clear hb); (try clear hb2); (try clear hk); (try clear hi); (try clear ho0); refine Stop0.out ?_))); (refine Stop0.mk ?_); (have H := H0_.out); clear H0_; (obtain rfl := Option.some.inj H); (obtain ⟨Ao10, co10, eo10⟩ := Kd.S_slice HO245.out); subst eo10; (have hnb11 := NB242_240.out); (have hnc11 := NB240_242.out); (have hnb12 := NB242_241.out); (have hnc12 := NB241_242.out); (have hcz13_0 : w9.cell? ⟨gb242, 0, none⟩ = some (.slice none 0 0) := (blk_cell BK242.out 0).trans rfl); (have hfz13_0 := blk_frozen BK242.out 0); (have hnb14 := NB241_240.out); (have hnc14 := NB240_241.out); (have hcz15_0 : w9.cell? ⟨gb241, 0, none⟩ = some (.slice none 0 0) := (blk_cell BK241.out 0).trans rfl); (have hfz15_0 := blk_frozen BK241.out 0); go_wp2; (refine bodyPost_ret (results_cell_row rfl _ _ gb241 32 #[.slice Ao10 t243.length co10] (0, 0) _ rfl (by (with_reducible repeat (first | apply gn_ | apply gd_ | apply ga_)); refine blk_put (cs := #[.slice none 0 0]) ?_ 0 _ rfl; (with_reducible repeat (first | apply gn_ | apply gd_ | apply ga_)); refine blk_far ?_ NB241_242.out _; (with_reducible repeat (first | apply gn_ | apply gd_ | apply ga_)); exact BK241.out) Try.underlying32 rfl (by kernel_rfl)) rfl ?_)
 exact ⟨_, by first | rfl | (simp [errW_none, errW_some] <;> rfl) | (simp [*, errW_none, errW_some] <;> rfl), by (with_reducible repeat (first | apply Kd.S_alloc | apply Kd.S_drewN | apply Kd.S_drew)); exact Kd.S_mono (Kd.S_far (p := ⟨gb241, 0, none⟩) (Kd.S_far (p := ⟨gb242, 0, none⟩) (Kd.S_types (Kd.S_types HO245.out BK242.out (by decide)) BK241.out (by decide)) (fun _ hk => hk.1.2) (.slice Ao10 t243.length co10)) (fun _ hk => hk.2) (.slice Ao10 t243.length co10)) (fun _ hk => trivial), by repeat (first | (with_reducible first | exact HB.out | apply ba_ | apply bn_ | apply bd_ | refine below_set ?_ GE240.out | refine below_set ?_ GE241.out | refine below_set ?_ GE242.out) | exact HB.out)⟩
end Go.Proofs.Ytlbckkagjekhnaa.A

namespace Go.Proofs.Ytlbckkagjekhnaa.A
open Go.RowKit Go.Proofs.YtlbckkagjekhnaaW.PrintWords Go.Proofs.YtlbckkagjekhnaaW.PrintLast Go.Proofs.YtlbckkagjekhnaaW.PrintMore
attribute [local go_sem] max2_int min2_int max_two min_two max_three min_three max_four min_four   -- for this text's walks alone
set_option linter.unusedVariables false
set_option linter.unusedSimpArgs false
def laws_eqCube.f (a0_0 : Int) (a0_1 : Int) (a0_2 : Int) (a1_0 : Int) (a1_1 : Int) (a1_2 : Int) : Option (Bool) := if a0_0 = a1_0 then (if a0_1 = a1_1 then (if a0_2 = a1_2 then (some true) else (some false)) else (some false)) else (some false)
set_option maxHeartbeats 8000000 in
set_option maxRecDepth 100000 in
theorem laws_eqCube.calls (a0_0 : Int) (a0_1 : Int) (a0_2 : Int) (a1_0 : Int) (a1_1 : Int) (a1_2 : Int) (r : Bool) (w : World) (h : laws_eqCube.f a0_0 a0_1 a0_2 a1_0 a1_1 a1_2 = some r) :
    Calls Try.prog 52 #[.agg #[.int .i64 a0_0, .int .i64 a0_1, .int .i64 a0_2], .agg #[.int .i64 a1_0, .int .i64 a1_1, .int .i64 a1_2]] w fun e w' => e = .returned (.bool r) ∧ Below w.heap.size w w' := by
 (have hu69 := Try.underlying69); (have HB := A0_ (Below.refl w.heap.size w)); (have H : (if a0_0 = a1_0 then (if a0_1 = a1_1 then (if a0_2 = a1_2 then (some true) else (some false)) else (some false)) else (some false)) = some r := h); clear h; (by_cases c3 : a0_0 = a1_0)
 ·(rw [if_pos c3] at H); (have c3b0 : (a0_0 == a1_0) = true := beq_iff_eq.mpr c3); (have c3b1 : (a0_0 != a1_0) = false := bne_eq_false_iff_eq.mpr c3); clear c3; (by_cases c4 : a0_1 = a1_1)
  ·(rw [if_pos c4] at H); (have c4b0 : (a0_1 == a1_1) = true := beq_iff_eq.mpr c4); (have c4b1 : (a0_1 != a1_1) = false := bne_eq_false_iff_eq.mpr c4); clear c4; (by_cases c5 : a0_2 = a1_2)
   ·(rw [if_pos c5] at H); (have c5b0 : (a0_2 == a1_2) = true := beq_iff_eq.mpr c5); (have c5b1 : (a0_2 != a1_2) = false := bne_eq_false_iff_eq.mpr c5); clear c5; (obtain rfl := Option.some.inj H); (go_enter Try.func52, Try.ntmps52); (go_wp2_with (first | ((with_reducible refine gate_dst (N := 2) rfl ?_); refine box_event ?hg (N := 2) ?hd (cs := #[.int .i64 a0_0, .int .i64 a0_1, .int .i64 a0_2]) (t := 69) ?hr ?_; (case hd => rfl); (case hg => rfl); (case hr => first | (go_simp; done) | (go_simp; rfl)); intro gb321 hg w6 hbox hb; have n0_ := A0_ (below_step (by repeat (first | (with_reducible first | exact HB.out | apply ba_ | apply bn_ | apply bd_) | exact HB.out)) hb); have n1_ := A0_ (hbox); have n2_ := A0_ ((by rw [hg]; exact (below_size (by repeat (first | (with_reducible first | exact HB.out | apply ba_ | apply bn_ | apply bd_) | exact HB.out))) : w.heap.size ≤ gb321)); have n3_ := A0_ ((by rw [hg]; exact (below_size (by repeat (first | (with_reducible first | exact HB.out | apply ba_ | apply bn_ | apply bd_) | exact HB.out))) : w.heap.size ≤ gb321)); clear HB; have HB := n0_; have BK321 := n1_; have GW321 := n2_; have GE321 := n3_; clear n0_ n1_ n2_ n3_; clear hb hbox hg) | ((with_reducible refine gate_dst (N := 3) rfl ?_); refine box_event ?hg (N := 3) ?hd (cs := #[.int .i64 a1_0, .int .i64 a1_1, .int .i64 a1_2]) (t := 69) ?hr ?_; (case hd => rfl); (case hg => rfl); (case hr => first | (go_simp; done) | (go_simp; rfl)); intro gb322 hg w7 hbox hb; have n0_ := A0_ (blk_below (g := gb321) (o := .cells #[.int .i64 a0_0, .int .i64 a0_1, .int .i64 a0_2] 69 (0, 0)) (by (with_reducible repeat (first | apply gn_ | apply gd_ | apply ga_)); exact BK321.out) hb); have n1_ := A0_ (below_step (by repeat (first | (with_reducible first | exact HB.out | apply ba_ | apply bn_ | apply bd_ | refine below_set ?_ GE321.out) | exact HB.out)) hb); have n2_ := A0_ (hbox); have n3_ := A0_ ((by rw [hg]; exact (below_size (by repeat (first | (with_reducible first | exact HB.out | apply ba_ | apply bn_ | apply bd_ | refine below_set ?_ GE321.out) | exact HB.out))) : w.heap.size ≤ gb322)); have n4_ := A0_ ((by rw [hg]; exact (below_size (by repeat (first | (with_reducible first | exact HB.out | apply ba_ | apply bn_ | apply bd_ | refine below_set ?_ GE321.out) | exact HB.out))) : w.heap.size ≤ gb322)); have n5_ := A0_ ((by rw [hg]; exact Nat.ne_of_lt (blk_lt (g := gb321) (o := .cells #[.int .i64 a0_0, .int .i64 a0_1, .int .i64 a0_2] 69 (0, 0)) (by (with_reducible repeat (first | apply gn_ | apply gd_ | apply ga_)); exact BK321.out)) : gb321 ≠ gb322)); have n6_ := A0_ ((by rw [hg]; exact Nat.ne_of_gt (blk_lt (g := gb321) (o := .cells #[.int .i64 a0_0, .int .i64 a0_1, .int .i64 a0_2] 69 (0, 0)) (by (with_reducible repeat (first | apply gn_ | apply gd_ | apply ga_)); exact BK321.out)) : gb322 ≠ gb321)); clear BK321; clear HB; have BK321 := n0_; have HB := n1_; have BK322 := n2_; have GW322 := n3_; have GE322 := n4_; have NB321_322 := n5_; have NB322_321 := n6_; clear n0_ n1_ n2_ n3_ n4_ n5_ n6_; clear hb hbox hg; have hnb8 := NB321_322.out; have hnc8 := NB322_321.out; have hcz9_0 : w7.cell? ⟨gb321, 0, none⟩ = some (.int .i64 a0_0) := (blk_cell BK321.out 0).trans rfl; have hcz9_1 : w7.cell? ⟨gb321, 1, none⟩ = some (.int .i64 a0_1) := (blk_cell BK321.out 1).trans rfl; have hcz9_2 : w7.cell? ⟨gb321, 2, none⟩ = some (.int .i64 a0_2) := (blk_cell BK321.out 2).trans rfl; have hfz9_0 := blk_frozen BK321.out 0; have hfz9_1 := blk_frozen BK321.out 1; have hfz9_2 := blk_frozen BK321.out 2; have hcz10_0 : w7.cell? ⟨gb322, 0, none⟩ = some (.int .i64 a1_0) := (blk_cell BK322.out 0).trans rfl; have hcz10_1 : w7.cell? ⟨gb322, 1, none⟩ = some (.int .i64 a1_1) := (blk_cell BK322.out 1).trans rfl; have hcz10_2 : w7.cell? ⟨gb322, 2, none⟩ = some (.int .i64 a1_2) := (blk_cell BK322.out 2).trans rfl; have hfz10_0 := blk_frozen BK322.out 0; have hfz10_1 := blk_frozen BK322.out 1; have hfz10_2 := blk_frozen BK322.out 2))); go_ret; (exact ⟨by first | rfl | (simp [errW_none, errW_some] <;> rfl) | (simp [*, errW_none, errW_some] <;> rfl), by repeat (first | (with_reducible first | exact HB.out | apply ba_ | apply bn_ | apply bd_ | refine below_set ?_ GE321.out | refine below_set ?_ GE322.out) | exact HB.out)⟩)
   ·(rw [if_neg c5] at H); (have c5b0 : (a0_2 == a1_2) = false := beq_eq_false_iff_ne.mpr c5); (have c5b1 : (a0_2 != a1_2) = true := bne_iff_ne.mpr c5); (obtain rfl := Option.some.inj H); (go_enter Try.func52, Try.ntmps52); (go_wp2_with (first | ((with_reducible refine gate_dst (N := 2) rfl ?_); refine box_event ?hg (N := 2) ?hd (cs := #[.int .i64 a0_0, .int .i64 a0_1, .int .i64 a0_2]) (t := 69) ?hr ?_; (case hd => rfl); (case hg => rfl); (case hr => first | (go_simp; done) | (go_simp; rfl)); intro gb321 hg w11 hbox hb; have n0_ := A0_ (below_step (by repeat (first | (with_reducible first | exact HB.out | apply ba_ | apply bn_ | apply bd_) | exact HB.out)) hb); have n1_ := A0_ (hbox); have n2_ := A0_ ((by rw [hg]; exact (below_size (by repeat (first | (with_reducible first | exact HB.out | apply ba_ | apply bn_ | apply bd_) | exact HB.out))) : w.heap.size ≤ gb321)); have n3_ := A0_ ((by rw [hg]; exact (below_size (by repeat (first | (with_reducible first | exact HB.out | apply ba_ | apply bn_ | apply bd_) | exact HB.out))) : w.heap.size ≤ gb321)); clear HB; have HB := n0_; have BK321 := n1_; have GW321 := n2_; have GE321 := n3_; clear n0_ n1_ n2_ n3_; clear hb hbox hg) | ((with_reducible refine gate_dst (N := 3) rfl ?_); refine box_event ?hg (N := 3) ?hd (cs := #[.int .i64 a1_0, .int .i64 a1_1, .int .i64 a1_2]) (t := 69) ?hr ?_; (case hd => rfl); (case hg => rfl); (case hr => first | (go_simp; done) | (go_simp; rfl)); intro gb322 hg w12 hbox hb; have n0_ := A0_ (blk_below (g := gb321) (o := .cells #[.int .i64 a0_0, .int .i64 a0_1, .int .i64 a0_2] 69 (0, 0)) (by (with_reducible repeat (first | apply gn_ | apply gd_ | apply ga_)); exact BK321.out) hb); have n1_ := A0_ (below_step (by repeat (first | (with_reducible first | exact HB.out | apply ba_ | apply bn_ | apply bd_ | refine below_set ?_ GE321.out) | exact HB.out)) hb); have n2_ := A0_ (hbox); have n3_ := A0_ ((by rw [hg]; exact (below_size (by repeat (first | (with_reducible first | exact HB.out | apply ba_ | apply bn_ | apply bd_ | refine below_set ?_ GE321.out) | exact HB.out))) : w.heap.size ≤ gb322)); have n4_ := A0_ ((by rw [hg]; exact (below_size (by repeat (first | (with_reducible first | exact HB.out | apply ba_ | apply bn_ | apply bd_ | refine below_set ?_ GE321.out) | exact HB.out))) : w.heap.size ≤ gb322)); have n5_ := A0_ ((by rw [hg]; exact Nat.ne_of_lt (blk_lt (g := gb321) (o := .cells #[.int .i64 a0_0, .int .i64 a0_1, .int .i64 a0_2] 69 (0, 0)) (by (with_reducible repeat (first | apply gn_ | apply gd_ | apply ga_)); exact BK321.out)) : gb321 ≠ gb322)); have n6_ := A0_ ((by rw [hg]; exact Nat.ne_of_gt (blk_lt (g := gb321) (o := .cells #[.int .i64 a0_0, .int .i64 a0_1, .int .i64 a0_2] 69 (0, 0)) (by (with_reducible repeat (first | apply gn_ | apply gd_ | apply ga_)); exact BK321.out)) : gb322 ≠ gb321)); clear BK321; clear HB; have BK321 := n0_; have HB := n1_; have BK322 := n2_; have GW322 := n3_; have GE322 := n4_; have NB321_322 := n5_; have NB322_321 := n6_; clear n0_ n1_ n2_ n3_ n4_ n5_ n6_; clear hb hbox hg; have hnb13 := NB321_322.out; have hnc13 := NB322_321.out; have hcz14_0 : w12.cell? ⟨gb321, 0, none⟩ = some (.int .i64 a0_0) := (blk_cell BK321.out 0).trans rfl; have hcz14_1 : w12.cell? ⟨gb321, 1, none⟩ = some (.int .i64 a0_1) := (blk_cell BK321.out 1).trans rfl; have hcz14_2 : w12.cell? ⟨gb321, 2, none⟩ = some (.int .i64 a0_2) := (blk_cell BK321.out 2).trans rfl; have hfz14_0 := blk_frozen BK321.out 0; have hfz14_1 := blk_frozen BK321.out 1; have hfz14_2 := blk_frozen BK321.out 2; have hcz15_0 : w12.cell? ⟨gb322, 0, none⟩ = some (.int .i64 a1_0) := (blk_cell BK322.out 0).trans rfl; have hcz15_1 : w12.cell? ⟨gb322, 1, none⟩ = some (.int .i64 a1_1) := (blk_cell BK322.out 1).trans rfl; have hcz15_2 : w12.cell? ⟨gb322, 2, none⟩ = some (.int .i64 a1_2) := (blk_cell BK322.out 2).trans rfl; have hfz15_0 := blk_frozen BK322.out 0; have hfz15_1 := blk_frozen BK322.out 1; have hfz15_2 := blk_frozen BK322.out 2))); go_ret; (exact ⟨by first | rfl | (simp [errW_none, errW_some] <;> rfl) | (simp [*, errW_none, errW_some] <;> rfl), by repeat (first | (with_reducible first | exact HB.out | apply ba_ | apply bn_ | apply bd_ | refine below_set ?_ GE321.out | refine below_set ?_ GE322.out) | exact HB.out)⟩)
  ·(rw [if_neg c4] at H); (have c4b0 : (a0_1 == a1_1) = false := beq_eq_false_iff_ne.mpr c4); (have c4b1 : (a0_1 != a1_1) = true := bne_iff_ne.mpr c4); (obtain rfl := Option.some.inj H); (go_enter Try.func52, Try.ntmps52); (go_wp2_with (first | ((with_reducible refine gate_dst (N := 2) rfl ?_); refine box_event ?hg (N := 2) ?hd (cs := #[.int .i64 a0_0, .int .i64 a0_1, .int .i64 a0_2]) (t := 69) ?hr ?_; (case hd => rfl); (case hg => rfl); (case hr => first | (go_simp; done) | (go_simp; rfl)); intro gb321 hg w16 hbox hb; have n0_ := A0_ (below_step (by repeat (first | (with_reducible first | exact HB.out | apply ba_ | apply bn_ | apply bd_) | exact HB.out)) hb); have n1_ := A0_ (hbox); have n2_ := A0_ ((by rw [hg]; exact (below_size (by repeat (first | (with_reducible first | exact HB.out | apply ba_ | apply bn_ | apply bd_) | exact HB.out))) : w.heap.size ≤ gb321)); have n3_ := A0_ ((by rw [hg]; exact (below_size (by repeat (first | (with_reducible first | exact HB.out | apply ba_ | apply bn_ | apply bd_) | exact HB.out))) : w.heap.size ≤ gb321)); clear HB; have HB := n0_; have BK321 := n1_; have GW321 := n2_; have GE321 := n3_; clear n0_ n1_ n2_ n3_; clear hb hbox hg) | ((with_reducible refine gate_dst (N := 3) rfl ?_); refine box_event ?hg (N := 3) ?hd (cs := #[.int .i64 a1_0, .int .i64 a1_1, .int .i64 a1_2]) (t := 69) ?hr ?_; (case hd => rfl); (case hg => rfl); (case hr => first | (go_simp; done) | (go_simp; rfl)); intro gb322 hg w17 hbox hb; have n0_ := A0_ (blk_below (g := gb321) (o := .cells #[.int .i64 a0_0, .int .i64 a0_1, .int .i64 a0_2] 69 (0, 0)) (by (with_reducible repeat (first | apply gn_ | apply gd_ | apply ga_)); exact BK321.out) hb); have n1_ := A0_ (below_step (by repeat (first | (with_reducible first | exact HB.out | apply ba_ | apply bn_ | apply bd_ | refine below_set ?_ GE321.out) | exact HB.out)) hb); have n2_ := A0_ (hbox); have n3_ := A0_ ((by rw [hg]; exact (below_size (by repeat (first | (with_reducible first | exact HB.out | apply ba_ | apply bn_ | apply bd_ | refine below_set ?_ GE321.out) | exact HB.out))) : w.heap.size ≤ gb322)); have n4_ := A0_ ((by rw [hg]; exact (below_size (by repeat (first | (with_reducible first | exact HB.out | apply ba_ | apply bn_ | apply bd_ | refine below_set ?_ GE321.out) | exact HB.out))) : w.heap.size ≤ gb322)); have n5_ := A0_ ((by rw [hg]; exact Nat.ne_of_lt (blk_lt (g := gb321) (o := .cells #[.int .i64 a0_0, .int .i64 a0_1, .int .i64 a0_2] 69 (0, 0)) (by (with_reducible repeat (first | apply gn_ | apply gd_ | apply ga_)); exact BK321.out)) : gb321 ≠ gb322)); have n6_ := A0_ ((by rw [hg]; exact Nat.ne_of_gt (blk_lt (g := gb321) (o := .cells #[.int .i64 a0_0, .int .i64 a0_1, .int .i64 a0_2] 69 (0, 0)) (by (with_reducible repeat (first | apply gn_ | apply gd_ | apply ga_)); exact BK321.out)) : gb322 ≠ gb321)); clear BK321; clear HB; have BK321 := n0_; have HB := n1_; have BK322 := n2_; have GW322 := n3_; have GE322 := n4_; have NB321_322 := n5_; have NB322_321 := n6_; clear n0_ n1_ n2_ n3_ n4_ n5_ n6_; clear hb hbox hg; have hnb18 := NB321_322.out; have hnc18 := NB322_321.out; have hcz19_0 : w17.cell? ⟨gb321, 0, none⟩ = some (.int .i64 a0_0) := (blk_cell BK321.out 0).trans rfl; have hcz19_1 : w17.cell? ⟨gb321, 1, none⟩ = some (.int .i64 a0_1) := (blk_cell BK321.out 1).trans rfl; have hcz19_2 : w17.cell? ⟨gb321, 2, none⟩ = some (.int .i64 a0_2) := (blk_cell BK321.out 2).trans rfl; have hfz19_0 := blk_frozen BK321.out 0; have hfz19_1 := blk_frozen BK321.out 1; have hfz19_2 := blk_frozen BK321.out 2; have hcz20_0 : w17.cell? ⟨gb322, 0, none⟩ = some (.int .i64 a1_0) := (blk_cell BK322.out 0).trans rfl; have hcz20_1 : w17.cell? ⟨gb322, 1, none⟩ = some (.int .i64 a1_1) := (blk_cell BK322.out 1).trans rfl; have hcz20_2 : w17.cell? ⟨gb322, 2, none⟩ = some (.int .i64 a1_2) := (blk_cell BK322.out 2).trans rfl; have hfz20_0 := blk_frozen BK322.out 0; have hfz20_1 := blk_frozen BK322.out 1; have hfz20_2 := blk_frozen BK322.out 2))); go_ret; (exact ⟨by first | rfl | (simp [errW_none, errW_some] <;> rfl) | (simp [*, errW_none, errW_some] <;> rfl), by repeat (first | (with_reducible first | exact HB.out | apply ba_ | apply bn_ | apply bd_ | refine below_set ?_ GE321.out | refine below_set ?_ GE322.out) | exact HB.out)⟩)
 ·(rw [if_neg c3] at H); (have c3b0 : (a0_0 == a1_0) = false := beq_eq_false_iff_ne.mpr c3); (have c3b1 : (a0_0 != a1_0) = true := bne_iff_ne.mpr c3); (obtain rfl := Option.some.inj H); (go_enter Try.func52, Try.ntmps52); (go_wp2_with (first | ((with_reducible refine gate_dst (N := 2) rfl ?_); refine box_event ?hg (N := 2) ?hd (cs := #[.int .i64 a0_0, .int .i64 a0_1, .int .i64 a0_2]) (t := 69) ?hr ?_; (case hd => rfl); (case hg => rfl); (case hr => first | (go_simp; done) | (go_simp; rfl)); intro gb321 hg w21 hbox hb; have n0_ := A0_ (below_step (by repeat (first | (with_reducible first | exact HB.out | apply ba_ | apply bn_ | apply bd_) | exact HB.out)) hb); have n1_ := A0_ (hbox); have n2_ := A0_ ((by rw [hg]; exact (below_size (by repeat (first | (with_reducible first | exact HB.out | apply ba_ | apply bn_ | apply bd_) | exact HB.out))) : w.heap.size ≤ gb321)); have n3_ := A0_ ((by rw [hg]; exact (below_size (by repeat (first | (with_reducible first | exact HB.out | apply ba_ | apply bn_ | apply bd_) | exact HB.out))) : w.heap.size ≤ gb321)); clear HB; have HB := n0_; have BK321 := n1_; have GW321 := n2_; have GE321 := n3_; clear n0_ n1_ n2_ n3_; clear hb hbox hg) | ((with_reducible refine gate_dst (N := 3) rfl ?_); refine box_event ?hg (N := 3) ?hd (cs := #[.int .i64 a1_0, .int .i64 a1_1, .int .i64 a1_2]) (t := 69) ?hr ?_; (case hd => rfl); (case hg => rfl); (case hr => first | (go_simp; done) | (go_simp; rfl)); intro gb322 hg w22 hbox hb; have n0_ := A0_ (blk_below (g := gb321) (o := .cells #[.int .i64 a0_0, .int .i64 a0_1, .int .i64 a0_2] 69 (0, 0)) (by (with_reducible repeat (first | apply gn_ | apply gd_ | apply ga_)); exact BK321.out) hb); have n1_ := A0_ (below_step (by repeat (first | (with_reducible first | exact HB.out | apply ba_ | apply bn_ | apply bd_ | refine below_set ?_ GE321.out) | exact HB.out)) hb); have n2_ := A0_ (hbox); have n3_ := A0_ ((by rw [hg]; exact (below_size (by repeat (first | (with_reducible first | exact HB.out | apply ba_ | apply bn_ | apply bd_ | refine below_set ?_ GE321.out) | exact HB.out))) : w.heap.size ≤ gb322)); have n4_ := A0_ ((by rw [hg]; exact (below_size (by repeat (first | (with_reducible first | exact HB.out | apply ba_ | apply bn_ | apply bd_ | refine below_set ?_ GE321.out) | exact HB.out))) : w.heap.size ≤ gb322)); have n5_ := A0_ ((by rw [hg]; exact Nat.ne_of_lt (blk_lt (g := gb321) (o := .cells #[.int .i64 a0_0, .int .i64 a0_1, .int .i64 a0_2] 69 (0, 0)) (by (with_reducible repeat (first | apply gn_ | apply gd_ | apply ga_)); exact BK321.out)) : gb321 ≠ gb322)); have n6_ := A0_ ((by rw [hg]; exact Nat.ne_of_gt (blk_lt (g := gb321) (o := .cells #[.int .i64 a0_0, .int .i64 a0_1, .int .i64 a0_2] 69 (0, 0)) (by (with_reducible repeat (first | apply gn_ | apply gd_ | apply ga_)); exact BK321.out)) : gb322 ≠ gb321)); clear BK321; clear HB; have BK321 := n0_; have HB := n1_; have BK322 := n2_; have GW322 := n3_; have GE322 := n4_; have NB321_322 := n5_; have NB322_321 := n6_; clear n0_ n1_ n2_ n3_ n4_ n5_ n6_; clear hb hbox hg; have hnb23 := NB321_322.out; have hnc23 := NB322_321.out; have hcz24_0 : w22.cell? ⟨gb321, 0, none⟩ = some (.int .i64 a0_0) := (blk_cell BK321.out 0).trans rfl; have hcz24_1 : w22.cell? ⟨gb321, 1, none⟩ = some (.int .i64 a0_1) := (blk_cell BK321.out 1).trans rfl; have hcz24_2 : w22.cell? ⟨gb321, 2, none⟩ = some (.int .i64 a0_2) := (blk_cell BK321.out 2).trans rfl; have hfz24_0 := blk_frozen BK321.out 0; have hfz24_1 := blk_frozen BK321.out 1; have hfz24_2 := blk_frozen BK321.out 2; have hcz25_0 : w22.cell? ⟨gb322, 0, none⟩ = some (.int .i64 a1_0) := (blk_cell BK322.out 0).trans rfl; have hcz25_1 : w22.cell? ⟨gb322, 1, none⟩ = some (.int .i64 a1_1) := (blk_cell BK322.out 1).trans rfl; have hcz25_2 : w22.cell? ⟨gb322, 2, none⟩ = some (.int .i64 a1_2) := (blk_cell BK322.out 2).trans rfl; have hfz25_0 := blk_frozen BK322.out 0; have hfz25_1 := blk_frozen BK322.out 1; have hfz25_2 := blk_frozen BK322.out 2))); go_ret; (exact ⟨by first | rfl | (simp [errW_none, errW_some] <;> rfl) | (simp [*, errW_none, errW_some] <;> rfl), by repeat (first | (with_reducible first | exact HB.out | apply ba_ | apply bn_ | apply bd_ | refine below_set ?_ GE321.out | refine below_set ?_ GE322.out) | exact HB.out)⟩)
end Go.Proofs.Ytlbckkagjekhnaa.A

