/- What the row of the law FnTurnedLayouts stands on, part 6. -/
import Derived.Test.YtgcagmmghckbbaaMFnTurnedLayouts5
namespace Go.Proofs.Ytgcagmmghckbbaa.A
open Go.RowKit Go.Proofs.YtgcagmmghckbbaaW.PrintWords Go.Proofs.YtgcagmmghckbbaaW.PrintLast Go.Proofs.YtgcagmmghckbbaaW.PrintMore
set_option linter.unusedVariables false
set_option linter.unusedSimpArgs false
section
attribute [local go_sem] max2_int min2_int max_two min_two max_three min_three max_four min_four
attribute [local go_sem high] eqA24
def laws_FnTurnedLayouts.j0 : Nat → List (S24) → Int → Int → List (S74) → Int → Int → Int → Bool → Int → Int → Int → Int → Int → Int → Int → Int → Option (Bool)
  | 0, _, _, _, _, _, _, _, _, _, _, _, _, _, _, _, _ => none
  | k + 1, x3, x4, x5, x7, x8, x12, x14, x92, x872000, x872001, x872002, x872003, x878000, x878001, x878002, x878003 => if x92 = true then (some false) else (if x14 = 0 then ((impl_TurnTile.f k x878000 x878001 x878002 x878003 (Int.tmod (wrap64 (4 - x12)) 4)).bind fun bt887 => (if bt887.2.2.2.2 = 0 then (if (!(bt887.1 == x872000) || (!(bt887.2.1 == x872001) || (!(bt887.2.2.1 == x872002) || (!(bt887.2.2.2.1 == x872003))))) = true then (some false) else (if x8 = 0 then ((impl_IsCorrectLayout.f k x3 x5 x4 x7).bind fun t893 => (some t893)) else (some true))) else (some false))) else (if x8 = 0 then ((impl_IsCorrectLayout.f k x3 x5 x4 x7).bind fun t894 => (some t894)) else (some true)))
def laws_FnTurnedLayouts.f (k : Nat) (l0 : List Int) : Option (Bool) := (laws_big.f l0).bind fun t849 => (if t849 = true then (some true) else ((spec_DrawTurnLayout.f k l0).bind fun bt850 => ((impl_TurnLayout.f k bt850.1 bt850.2.1 bt850.2.2.1 bt850.2.2.2).bind fun bt858 => ((spec_TurnLayout.f k bt850.1 bt850.2.1 bt850.2.2.1 bt850.2.2.2).bind fun bt862 => ((spec_DrawTurnTile.f k l0).bind fun bt866 => ((impl_TurnTile.f k bt866.1 bt866.2.1 bt866.2.2.1 bt866.2.2.2.1 bt866.2.2.2.2).bind fun bt872 => ((spec_TurnTile.f k bt866.1 bt866.2.1 bt866.2.2.1 bt866.2.2.2.1 bt866.2.2.2.2).bind fun bt878 => (if bt858.2 = bt862.2 then ((laws_likeSets.f k bt858.1 bt862.1).bind fun t884 => (if t884 = true then (if bt872.2.2.2.2 = bt878.2.2.2.2 then (if (!(bt872.1 == bt878.1) || (!(bt872.2.1 == bt878.2.1) || (!(bt872.2.2.1 == bt878.2.2.1) || (!(bt872.2.2.2.1 == bt878.2.2.2.1))))) = true then (laws_FnTurnedLayouts.j0 k bt850.1 bt850.2.1 bt850.2.2.1 bt858.1 bt858.2 bt866.2.2.2.2 bt872.2.2.2.2 true bt866.1 bt866.2.1 bt866.2.2.1 bt866.2.2.2.1 bt872.1 bt872.2.1 bt872.2.2.1 bt872.2.2.2.1) else ((impl_IsCorrectLayout.f k bt850.1 bt850.2.1 bt850.2.2.1 bt850.2.2.2).bind fun t885 => ((spec_IsCorrectLayout.f k bt850.1 bt850.2.1 bt850.2.2.1 bt850.2.2.2).bind fun t886 => (laws_FnTurnedLayouts.j0 k bt850.1 bt850.2.1 bt850.2.2.1 bt858.1 bt858.2 bt866.2.2.2.2 bt872.2.2.2.2 (t885 != t886) bt866.1 bt866.2.1 bt866.2.2.1 bt866.2.2.2.1 bt872.1 bt872.2.1 bt872.2.2.1 bt872.2.2.2.1)))) else (laws_FnTurnedLayouts.j0 k bt850.1 bt850.2.1 bt850.2.2.1 bt858.1 bt858.2 bt866.2.2.2.2 bt872.2.2.2.2 true bt866.1 bt866.2.1 bt866.2.2.1 bt866.2.2.2.1 bt872.1 bt872.2.1 bt872.2.2.1 bt872.2.2.2.1)) else (laws_FnTurnedLayouts.j0 k bt850.1 bt850.2.1 bt850.2.2.1 bt858.1 bt858.2 bt866.2.2.2.2 bt872.2.2.2.2 true bt866.1 bt866.2.1 bt866.2.2.1 bt866.2.2.2.1 bt872.1 bt872.2.1 bt872.2.2.1 bt872.2.2.2.1))) else (laws_FnTurnedLayouts.j0 k bt850.1 bt850.2.1 bt850.2.2.1 bt858.1 bt858.2 bt866.2.2.2.2 bt872.2.2.2.2 true bt866.1 bt866.2.1 bt866.2.2.1 bt866.2.2.2.1 bt872.1 bt872.2.1 bt872.2.2.1 bt872.2.2.2.1)))))))))
set_option maxHeartbeats 8000000 in
set_option maxRecDepth 100000 in
theorem laws_FnTurnedLayouts.calls (k : Nat) (A0 : Option Addr) (c0 : Nat) (l0 : List Int) (r : Bool) (w : World) (hr0 : Kd.C (Kd.int .u8) w A0 l0.length l0) (hc0 : l0.length ≤ c0) (h : laws_FnTurnedLayouts.f k l0 = some r) :
    Calls Try.prog 11 #[.slice A0 l0.length c0] w fun e w' => e = .returned (.bool r) ∧ Below w.heap.size w w' := by
 (have hu24 := Try.underlying24); (have HR0 := A0_ hr0); (have HC0 := A0_ hc0); clear hr0 hc0; (have HB := A0_ (Below.refl w.heap.size w))
 have H : ((laws_big.f l0).bind fun t849 => (if t849 = true then (some true) else ((spec_DrawTurnLayout.f k l0).bind fun bt850 => ((impl_TurnLayout.f k bt850.1 bt850.2.1 bt850.2.2.1 bt850.2.2.2).bind fun bt858 => ((spec_TurnLayout.f k bt850.1 bt850.2.1 bt850.2.2.1 bt850.2.2.2).bind fun bt862 => ((spec_DrawTurnTile.f k l0).bind fun bt866 => ((impl_TurnTile.f k bt866.1 bt866.2.1 bt866.2.2.1 bt866.2.2.2.1 bt866.2.2.2.2).bind fun bt872 => ((spec_TurnTile.f k bt866.1 bt866.2.1 bt866.2.2.1 bt866.2.2.2.1 bt866.2.2.2.2).bind fun bt878 => (if bt858.2 = bt862.2 then ((laws_likeSets.f k bt858.1 bt862.1).bind fun t884 => (if t884 = true then (if bt872.2.2.2.2 = bt878.2.2.2.2 then (if (!(bt872.1 == bt878.1) || (!(bt872.2.1 == bt878.2.1) || (!(bt872.2.2.1 == bt878.2.2.1) || (!(bt872.2.2.2.1 == bt878.2.2.2.1))))) = true then (laws_FnTurnedLayouts.j0 k bt850.1 bt850.2.1 bt850.2.2.1 bt858.1 bt858.2 bt866.2.2.2.2 bt872.2.2.2.2 true bt866.1 bt866.2.1 bt866.2.2.1 bt866.2.2.2.1 bt872.1 bt872.2.1 bt872.2.2.1 bt872.2.2.2.1) else ((impl_IsCorrectLayout.f k bt850.1 bt850.2.1 bt850.2.2.1 bt850.2.2.2).bind fun t885 => ((spec_IsCorrectLayout.f k bt850.1 bt850.2.1 bt850.2.2.1 bt850.2.2.2).bind fun t886 => (laws_FnTurnedLayouts.j0 k bt850.1 bt850.2.1 bt850.2.2.1 bt858.1 bt858.2 bt866.2.2.2.2 bt872.2.2.2.2 (t885 != t886) bt866.1 bt866.2.1 bt866.2.2.1 bt866.2.2.2.1 bt872.1 bt872.2.1 bt872.2.2.1 bt872.2.2.2.1)))) else (laws_FnTurnedLayouts.j0 k bt850.1 bt850.2.1 bt850.2.2.1 bt858.1 bt858.2 bt866.2.2.2.2 bt872.2.2.2.2 true bt866.1 bt866.2.1 bt866.2.2.1 bt866.2.2.2.1 bt872.1 bt872.2.1 bt872.2.2.1 bt872.2.2.2.1)) else (laws_FnTurnedLayouts.j0 k bt850.1 bt850.2.1 bt850.2.2.1 bt858.1 bt858.2 bt866.2.2.2.2 bt872.2.2.2.2 true bt866.1 bt866.2.1 bt866.2.2.1 bt866.2.2.2.1 bt872.1 bt872.2.1 bt872.2.2.1 bt872.2.2.2.1))) else (laws_FnTurnedLayouts.j0 k bt850.1 bt850.2.1 bt850.2.2.1 bt858.1 bt858.2 bt866.2.2.2.2 bt872.2.2.2.2 true bt866.1 bt866.2.1 bt866.2.2.1 bt866.2.2.2.1 bt872.1 bt872.2.1 bt872.2.2.1 bt872.2.2.2.1)))))))))) = some r := h
 clear h; (replace H := Option.bind_eq_some_iff.mp H); (obtain ⟨t849, A20, H⟩ := H); (try dsimp only at H); (have A2 := A0_ A20); clear A20; (have H0_ := A0_ H); clear H; (go_enter Try.func11, Try.ntmps11); (go_wp2_with (first | ((with_reducible refine gate_callee (f := 28) rfl ?_); refine gl_ (some 20) Try.func28 #[.slice A0 l0.length c0] ?_; (with_reducible refine (laws_big.calls _ _ l0 t849 _ ?side1 ?side2 A2.out).mono ?_); (case side1 => exact kc_ HR0.out); (case side2 => exact HC0.out); rintro e w' ⟨rfl, ⟨nd, rfl⟩⟩; refine ⟨_, rfl, ?_⟩; refine Stop0.out ?_))); (refine Stop0.mk ?_); (have H := H0_.out); clear H0_; (by_cases c3 : t849 = true)
 ·subst c3; (have H1 := H); (rw [if_pos rfl] at H1); clear H; (have H := H1); clear H1; (obtain rfl := Option.some.inj H); go_wp2; go_ret; (exact ⟨er_, bx_⟩)
 ·(replace c3 := Bool.eq_false_iff.mpr c3); subst c3
  have H1 : ((spec_DrawTurnLayout.f k l0).bind fun bt850 => ((impl_TurnLayout.f k bt850.1 bt850.2.1 bt850.2.2.1 bt850.2.2.2).bind fun bt858 => ((spec_TurnLayout.f k bt850.1 bt850.2.1 bt850.2.2.1 bt850.2.2.2).bind fun bt862 => ((spec_DrawTurnTile.f k l0).bind fun bt866 => ((impl_TurnTile.f k bt866.1 bt866.2.1 bt866.2.2.1 bt866.2.2.2.1 bt866.2.2.2.2).bind fun bt872 => ((spec_TurnTile.f k bt866.1 bt866.2.1 bt866.2.2.1 bt866.2.2.2.1 bt866.2.2.2.2).bind fun bt878 => (if bt858.2 = bt862.2 then ((laws_likeSets.f k bt858.1 bt862.1).bind fun t884 => (if t884 = true then (if bt872.2.2.2.2 = bt878.2.2.2.2 then (if (!(bt872.1 == bt878.1) || (!(bt872.2.1 == bt878.2.1) || (!(bt872.2.2.1 == bt878.2.2.1) || (!(bt872.2.2.2.1 == bt878.2.2.2.1))))) = true then (laws_FnTurnedLayouts.j0 k bt850.1 bt850.2.1 bt850.2.2.1 bt858.1 bt858.2 bt866.2.2.2.2 bt872.2.2.2.2 true bt866.1 bt866.2.1 bt866.2.2.1 bt866.2.2.2.1 bt872.1 bt872.2.1 bt872.2.2.1 bt872.2.2.2.1) else ((impl_IsCorrectLayout.f k bt850.1 bt850.2.1 bt850.2.2.1 bt850.2.2.2).bind fun t885 => ((spec_IsCorrectLayout.f k bt850.1 bt850.2.1 bt850.2.2.1 bt850.2.2.2).bind fun t886 => (laws_FnTurnedLayouts.j0 k bt850.1 bt850.2.1 bt850.2.2.1 bt858.1 bt858.2 bt866.2.2.2.2 bt872.2.2.2.2 (t885 != t886) bt866.1 bt866.2.1 bt866.2.2.1 bt866.2.2.2.1 bt872.1 bt872.2.1 bt872.2.2.1 bt872.2.2.2.1)))) else (laws_FnTurnedLayouts.j0 k bt850.1 bt850.2.1 bt850.2.2.1 bt858.1 bt858.2 bt866.2.2.2.2 bt872.2.2.2.2 true bt866.1 bt866.2.1 bt866.2.2.1 bt866.2.2.2.1 bt872.1 bt872.2.1 bt872.2.2.1 bt872.2.2.2.1)) else (laws_FnTurnedLayouts.j0 k bt850.1 bt850.2.1 bt850.2.2.1 bt858.1 bt858.2 bt866.2.2.2.2 bt872.2.2.2.2 true bt866.1 bt866.2.1 bt866.2.2.1 bt866.2.2.2.1 bt872.1 bt872.2.1 bt872.2.2.1 bt872.2.2.2.1))) else (laws_FnTurnedLayouts.j0 k bt850.1 bt850.2.1 bt850.2.2.1 bt858.1 bt858.2 bt866.2.2.2.2 bt872.2.2.2.2 true bt866.1 bt866.2.1 bt866.2.2.1 bt866.2.2.2.1 bt872.1 bt872.2.1 bt872.2.2.1 bt872.2.2.2.1)))))))) = some r := by rw [if_neg (show ¬ (false = true) by decide)] at H; exact H
  clear H; (have H := H1); clear H1; (replace H := Option.bind_eq_some_iff.mp H); (obtain ⟨⟨t850, t851, t852, t853⟩, A40, H⟩ := H); (try dsimp only at H); (have A4 := A0_ A40); clear A40; (have H0_ := A0_ H); clear H; (go_wp2_with (first | ((with_reducible refine gate_callee (f := 45) rfl ?_); refine gl_ (some 23) Try.func45 #[.slice A0 l0.length c0] ?_; (with_reducible refine (spec_DrawTurnLayout.calls k _ _ l0 t850 t851 t852 t853 _ ?side1 ?side2 A4.out).mono ?_); (case side1 => exact kc_ (Kd.C_below HR0.out HB.out)); (case side2 => exact HC0.out); rintro e w5 ⟨v854, v856, rfl, ho0, ho1, hb⟩; refine ⟨_, rfl, ?_⟩; have n0_ := A0_ (Kd.Q_lower ho0 (below_size bw_)); have n1_ := A0_ (Kd.Q_lower ho1 (below_size bw_)); have n2_ := A0_ (below_step bw_ hb); clear HB; have HO855 := n0_; have HO857 := n1_; have HB := n2_; clear n0_ n1_ n2_; (try clear hb); (try clear hb2); (try clear hk); (try clear hi); (try clear ho0); (try clear ho1); refine Stop0.out ?_))); (refine Stop0.mk ?_); (have H := H0_.out); clear H0_; (replace H := Option.bind_eq_some_iff.mp H); (obtain ⟨⟨t858, t859⟩, A60, H⟩ := H); (try dsimp only at H); (have A6 := A0_ A60); clear A60; (have H0_ := A0_ H); clear H; (obtain ⟨Ao7, co7, eo7, _⟩ := Kd.Q_slice HO855.out); subst eo7; (obtain ⟨Ao8, co8, eo8, _⟩ := Kd.Q_slice HO857.out); subst eo8; (go_wp2_with (first | ((with_reducible refine gate_callee (f := 40) rfl ?_); refine gl_ (some 33) Try.func40 #[.slice Ao7 t850.length co7, .int .i64 t851, .int .i64 t852, .slice Ao8 t853.length co8] ?_; (with_reducible refine (impl_TurnLayout.calls k _ _ t850 t851 t852 _ _ t853 t858 t859 _ ?side1 ?side2 ?side3 ?side4 A6.out).mono ?_); (case side1 => exact kc_ (Kd.Q_reads' HO855.out).2.2); (case side2 => exact (Kd.Q_reads' HO855.out).2.1); (case side3 => exact kc_ (Kd.Q_reads' HO857.out).2.2); (case side4 => exact (Kd.Q_reads' HO857.out).2.1); rintro e w9 ⟨v860, rfl, ho0, hb⟩; refine ⟨_, rfl, ?_⟩; have n0_ := A0_ (Kd.Q_below (by (with_reducible repeat (first | apply Qa_ | apply Qn_ | apply Qd_)); exact HO855.out) hb); have n1_ := A0_ (Kd.Q_elder' (by (with_reducible repeat (first | apply Qa_ | apply Qn_ | apply Qd_)); exact HO857.out) (Kd.R_base ho0) hb); have n2_ := A0_ (Kd.R_lower (Kd.R_new' ho0 (Kd.Q_lt (by (with_reducible repeat (first | apply Qa_ | apply Qn_ | apply Qd_)); exact HO857.out))) (below_size bw_)); have n3_ := A0_ (below_step bw_ hb); clear HO855; clear HO857; clear HB; have HO855 := n0_; have HO857 := n1_; have HO861 := n2_; have HB := n3_; clear n0_ n1_ n2_ n3_; (try clear hb); (try clear hb2); (try clear hk); (try clear hi); (try clear ho0); refine Stop0.out ?_))); (refine Stop0.mk ?_); (have H := H0_.out); clear H0_; (replace H := Option.bind_eq_some_iff.mp H); (obtain ⟨⟨t862, t863⟩, A100, H⟩ := H); (try dsimp only at H); (have A10 := A0_ A100); clear A100; (have H0_ := A0_ H); clear H; (go_wp2_with (first | ((with_reducible refine gate_callee (f := 39) rfl ?_); refine gl_ (some 41) Try.func39 #[.slice Ao7 t850.length co7, .int .i64 t851, .int .i64 t852, .slice Ao8 t853.length co8] ?_; (with_reducible refine (spec_TurnLayout.calls k _ _ t850 t851 t852 _ _ t853 t862 t863 _ ?side1 ?side2 ?side3 ?side4 A10.out).mono ?_); (case side1 => exact kc_ (Kd.Q_reads' HO855.out).2.2); (case side2 => exact (Kd.Q_reads' HO855.out).2.1); (case side3 => exact kc_ (Kd.Q_reads' HO857.out).2.2); (case side4 => exact (Kd.Q_reads' HO857.out).2.1); rintro e w11 ⟨v864, rfl, ho0, hb⟩; refine ⟨_, rfl, ?_⟩; have n0_ := A0_ (Kd.Q_below (by (with_reducible repeat (first | apply Qa_ | apply Qn_ | apply Qd_)); exact HO855.out) hb); have n1_ := A0_ (Kd.Q_elder' (by (with_reducible repeat (first | apply Qa_ | apply Qn_ | apply Qd_)); exact HO857.out) (Kd.R_base ho0) hb); have n2_ := A0_ (Kd.R_elder' (by (with_reducible repeat (first | apply Ra_ | apply Rn_ | apply Rd_)); exact HO861.out) (Kd.R_base ho0) hb); have n3_ := A0_ (Kd.R_lower (Kd.R_new' (Kd.R_new' ho0 (Kd.Q_lt (by (with_reducible repeat (first | apply Qa_ | apply Qn_ | apply Qd_)); exact HO857.out))) (Kd.R_lt (by (with_reducible repeat (first | apply Ra_ | apply Rn_ | apply Rd_)); exact HO861.out))) (below_size bw_)); have n4_ := A0_ (below_step bw_ hb); clear HO855; clear HO857; clear HO861; clear HB; have HO855 := n0_; have HO857 := n1_; have HO861 := n2_; have HO865 := n3_; have HB := n4_; clear n0_ n1_ n2_ n3_ n4_; (try clear hb); (try clear hb2); (try clear hk); (try clear hi); (try clear ho0); refine Stop0.out ?_))); (refine Stop0.mk ?_); (have H := H0_.out); clear H0_; (replace H := Option.bind_eq_some_iff.mp H); (obtain ⟨⟨t866, t867, t868, t869, t870⟩, A120, H⟩ := H); (try dsimp only at H); (have A12 := A0_ A120); clear A120; (have H0_ := A0_ H); clear H; (go_wp2_with (first | ((with_reducible refine gate_callee (f := 46) rfl ?_); refine gl_ (some 46) Try.func46 #[.slice A0 l0.length c0] ?_; (with_reducible refine (spec_DrawTurnTile.calls k _ _ l0 t866 t867 t868 t869 t870 _ ?side1 ?side2 A12.out).mono ?_); (case side1 => exact kc_ (Kd.C_below HR0.out HB.out)); (case side2 => exact HC0.out); rintro e w13 ⟨rfl, hb⟩; refine ⟨_, rfl, ?_⟩; have n0_ := A0_ (Kd.Q_below (by (with_reducible repeat (first | apply Qa_ | apply Qn_ | apply Qd_)); exact HO855.out) hb); have n1_ := A0_ (Kd.Q_below (by (with_reducible repeat (first | apply Qa_ | apply Qn_ | apply Qd_)); exact HO857.out) hb); have n2_ := A0_ (Kd.R_below (by (with_reducible repeat (first | apply Ra_ | apply Rn_ | apply Rd_)); exact HO861.out) hb); have n3_ := A0_ (Kd.R_below (by (with_reducible repeat (first | apply Ra_ | apply Rn_ | apply Rd_)); exact HO865.out) hb); have n4_ := A0_ (below_step bw_ hb); clear HO855; clear HO857; clear HO861; clear HO865; clear HB; have HO855 := n0_; have HO857 := n1_; have HO861 := n2_; have HO865 := n3_; have HB := n4_; clear n0_ n1_ n2_ n3_ n4_; (try clear hb); (try clear hb2); (try clear hk); (try clear hi); refine Stop0.out ?_))); (refine Stop0.mk ?_); (have H := H0_.out); clear H0_; (replace H := Option.bind_eq_some_iff.mp H); (obtain ⟨⟨t872, t873, t874, t875, t876⟩, A140, H⟩ := H); (try dsimp only at H); (have A14 := A0_ A140); clear A140; (have H0_ := A0_ H); clear H
  go_wp2_with (first | ((with_reducible refine gate_dst (N := 11) rfl ?_); refine be_ (N := 11) (cs := #[.int .i64 0, .int .i64 0, .int .i64 0, .int .i64 0]) (t := 24) ?_; intro gb871 hg w15 hbox hb; have n0_ := A0_ (Kd.Q_below (Kd.Q_elderB (by (with_reducible repeat (first | apply Qa_ | apply Qn_ | apply Qd_)); exact HO855.out) gb871 (Nat.le_of_eq hg.symm)) hb); have n1_ := A0_ (Kd.Q_below (by (with_reducible repeat (first | apply Qa_ | apply Qn_ | apply Qd_)); exact HO857.out) hb); have n2_ := A0_ (Kd.R_below (by (with_reducible repeat (first | apply Ra_ | apply Rn_ | apply Rd_)); exact HO861.out) hb); have n3_ := A0_ (Kd.R_below (by (with_reducible repeat (first | apply Ra_ | apply Rn_ | apply Rd_)); exact HO865.out) hb); have n4_ := A0_ (below_step bw_ hb); have n5_ := A0_ (hbox); have n6_ := A0_ ((by rw [hg]; exact (below_size bw_) : w.heap.size ≤ gb871)); have n7_ := A0_ ((by rw [hg]; exact (below_size bw_) : w.heap.size ≤ gb871)); clear HO855; clear HO857; clear HO861; clear HO865; clear HB; have HO855 := n0_; have HO857 := n1_; have HO861 := n2_; have HO865 := n3_; have HB := n4_; have BK871 := n5_; have GW871 := n6_; have GE871 := n7_; clear n0_ n1_ n2_ n3_ n4_ n5_ n6_ n7_; clear hb hbox hg; have hcz16_0 : w15.cell? ⟨gb871, 0, none⟩ = some (.int .i64 0) := (blk_cell BK871.out 0).trans rfl; have hcz16_1 : w15.cell? ⟨gb871, 1, none⟩ = some (.int .i64 0) := (blk_cell BK871.out 1).trans rfl; have hcz16_2 : w15.cell? ⟨gb871, 2, none⟩ = some (.int .i64 0) := (blk_cell BK871.out 2).trans rfl; have hcz16_3 : w15.cell? ⟨gb871, 3, none⟩ = some (.int .i64 0) := (blk_cell BK871.out 3).trans rfl; have hfz16_0 := blk_frozen BK871.out 0; have hfz16_1 := blk_frozen BK871.out 1; have hfz16_2 := blk_frozen BK871.out 2; have hfz16_3 := blk_frozen BK871.out 3) | ((with_reducible refine gate_callee (f := 15) rfl ?_); refine gl_ (some 52) Try.func15 #[.agg #[.int .i64 t866, .int .i64 t867, .int .i64 t868, .int .i64 t869], .int .i64 t870] ?_; (with_reducible refine (impl_TurnTile.calls k t866 t867 t868 t869 t870 t872 t873 t874 t875 t876 _ A14.out).mono ?_); rintro e w17 ⟨rfl, hb⟩; refine ⟨_, rfl, ?_⟩; have n0_ := A0_ (Kd.Q_below (by (with_reducible repeat (first | apply Qa_ | apply Qn_ | apply Qd_)); exact (Kd.Q_mono (Kd.Q_far (p := ⟨gb871, 3, none⟩) (Kd.Q_far (p := ⟨gb871, 2, none⟩) (Kd.Q_far (p := ⟨gb871, 1, none⟩) (Kd.Q_far (p := ⟨gb871, 0, none⟩) (Kd.Q_mono HO855.out (fun k_ hk => (⟨hk, hk.2⟩ : _ ∧ k_ ≠ gb871))) (fun _ hk => hk.2) (.int .i64 t866)) (fun _ hk => hk.2) (.int .i64 t867)) (fun _ hk => hk.2) (.int .i64 t868)) (fun _ hk => hk.2) (.int .i64 t869)) (fun _ h_ => h_.1))) hb); have n1_ := A0_ (Kd.Q_below (by (with_reducible repeat (first | apply Qa_ | apply Qn_ | apply Qd_)); exact (Kd.Q_mono (Kd.Q_far (p := ⟨gb871, 3, none⟩) (Kd.Q_far (p := ⟨gb871, 2, none⟩) (Kd.Q_far (p := ⟨gb871, 1, none⟩) (Kd.Q_far (p := ⟨gb871, 0, none⟩) (Kd.Q_types HO857.out BK871.out (by decide)) (fun _ hk => hk.2) (.int .i64 t866)) (fun _ hk => hk.2) (.int .i64 t867)) (fun _ hk => hk.2) (.int .i64 t868)) (fun _ hk => hk.2) (.int .i64 t869)) (fun _ h_ => h_.1))) hb); have n2_ := A0_ (Kd.R_below (by (with_reducible repeat (first | apply Ra_ | apply Rn_ | apply Rd_)); exact (Kd.R_mono (Kd.R_far (p := ⟨gb871, 3, none⟩) (Kd.R_far (p := ⟨gb871, 2, none⟩) (Kd.R_far (p := ⟨gb871, 1, none⟩) (Kd.R_far (p := ⟨gb871, 0, none⟩) (Kd.R_types HO861.out BK871.out (by decide)) (fun _ hk => hk.2) (.int .i64 t866)) (fun _ hk => hk.2) (.int .i64 t867)) (fun _ hk => hk.2) (.int .i64 t868)) (fun _ hk => hk.2) (.int .i64 t869)) (fun _ h_ => h_.1))) hb); have n3_ := A0_ (Kd.R_below (by (with_reducible repeat (first | apply Ra_ | apply Rn_ | apply Rd_)); exact (Kd.R_mono (Kd.R_far (p := ⟨gb871, 3, none⟩) (Kd.R_far (p := ⟨gb871, 2, none⟩) (Kd.R_far (p := ⟨gb871, 1, none⟩) (Kd.R_far (p := ⟨gb871, 0, none⟩) (Kd.R_types HO865.out BK871.out (by decide)) (fun _ hk => hk.2) (.int .i64 t866)) (fun _ hk => hk.2) (.int .i64 t867)) (fun _ hk => hk.2) (.int .i64 t868)) (fun _ hk => hk.2) (.int .i64 t869)) (fun _ h_ => h_.1))) hb); have n4_ := A0_ (blk_below (g := gb871) (o := .cells #[.int .i64 t866, .int .i64 t867, .int .i64 t868, .int .i64 t869] 24 (0, 0)) (by (with_reducible repeat (first | apply gn_ | apply gd_ | apply ga_)); refine blk_put (cs := #[.int .i64 t866, .int .i64 t867, .int .i64 t868, .int .i64 0]) ?_ 3 _ rfl; (with_reducible repeat (first | apply gn_ | apply gd_ | apply ga_)); refine blk_put (cs := #[.int .i64 t866, .int .i64 t867, .int .i64 0, .int .i64 0]) ?_ 2 _ rfl; (with_reducible repeat (first | apply gn_ | apply gd_ | apply ga_)); refine blk_put (cs := #[.int .i64 t866, .int .i64 0, .int .i64 0, .int .i64 0]) ?_ 1 _ rfl; (with_reducible repeat (first | apply gn_ | apply gd_ | apply ga_)); refine blk_put (cs := #[.int .i64 0, .int .i64 0, .int .i64 0, .int .i64 0]) ?_ 0 _ rfl; exact bk_ BK871) hb); have n5_ := A0_ (below_step bx_ hb); clear HO855; clear HO857; clear HO861; clear HO865; clear BK871; clear HB; have HO855 := n0_; have HO857 := n1_; have HO861 := n2_; have HO865 := n3_; have BK871 := n4_; have HB := n5_; clear n0_ n1_ n2_ n3_ n4_ n5_; (try clear hb); (try clear hb2); (try clear hk); (try clear hi); refine Stop0.out ?_))
  (refine Stop0.mk ?_); (have H := H0_.out); clear H0_; (replace H := Option.bind_eq_some_iff.mp H); (obtain ⟨⟨t878, t879, t880, t881, t882⟩, A180, H⟩ := H); (try dsimp only at H); (have A18 := A0_ A180); clear A180; (have H0_ := A0_ H); clear H
  go_wp2_with (first | ((with_reducible refine gate_dst (N := 13) rfl ?_); refine be_ (N := 13) (cs := #[.int .i64 0, .int .i64 0, .int .i64 0, .int .i64 0]) (t := 24) ?_; intro gb877 hg w19 hbox hb; have n0_ := A0_ (Kd.Q_below (Kd.Q_elderB (by (with_reducible repeat (first | apply Qa_ | apply Qn_ | apply Qd_)); exact HO855.out) gb877 (Nat.le_of_eq hg.symm)) hb); have n1_ := A0_ (Kd.Q_below (by (with_reducible repeat (first | apply Qa_ | apply Qn_ | apply Qd_)); exact HO857.out) hb); have n2_ := A0_ (Kd.R_below (by (with_reducible repeat (first | apply Ra_ | apply Rn_ | apply Rd_)); exact HO861.out) hb); have n3_ := A0_ (Kd.R_below (by (with_reducible repeat (first | apply Ra_ | apply Rn_ | apply Rd_)); exact HO865.out) hb); have n4_ := A0_ (blk_below (g := gb871) (o := .cells #[.int .i64 t866, .int .i64 t867, .int .i64 t868, .int .i64 t869] 24 (0, 0)) (bk_ BK871) hb); have n5_ := A0_ (below_step bx_ hb); have n6_ := A0_ (hbox); have n7_ := A0_ ((by rw [hg]; exact (below_size bx_) : w.heap.size ≤ gb877)); have n8_ := A0_ ((by rw [hg]; exact (below_size bx_) : w.heap.size ≤ gb877)); have n9_ := A0_ ((by rw [hg]; exact Nat.ne_of_lt (blk_lt (g := gb871) (o := .cells #[.int .i64 t866, .int .i64 t867, .int .i64 t868, .int .i64 t869] 24 (0, 0)) (bk_ BK871)) : gb871 ≠ gb877)); have n10_ := A0_ ((by rw [hg]; exact Nat.ne_of_gt (blk_lt (g := gb871) (o := .cells #[.int .i64 t866, .int .i64 t867, .int .i64 t868, .int .i64 t869] 24 (0, 0)) (bk_ BK871)) : gb877 ≠ gb871)); clear HO855; clear HO857; clear HO861; clear HO865; clear BK871; clear HB; have HO855 := n0_; have HO857 := n1_; have HO861 := n2_; have HO865 := n3_; have BK871 := n4_; have HB := n5_; have BK877 := n6_; have GW877 := n7_; have GE877 := n8_; have NB871_877 := n9_; have NB877_871 := n10_; clear n0_ n1_ n2_ n3_ n4_ n5_ n6_ n7_ n8_ n9_ n10_; clear hb hbox hg; have hnb20 := NB877_871.out; have hnc20 := NB871_877.out; have hcz21_0 : w19.cell? ⟨gb877, 0, none⟩ = some (.int .i64 0) := (blk_cell BK877.out 0).trans rfl; have hcz21_1 : w19.cell? ⟨gb877, 1, none⟩ = some (.int .i64 0) := (blk_cell BK877.out 1).trans rfl; have hcz21_2 : w19.cell? ⟨gb877, 2, none⟩ = some (.int .i64 0) := (blk_cell BK877.out 2).trans rfl; have hcz21_3 : w19.cell? ⟨gb877, 3, none⟩ = some (.int .i64 0) := (blk_cell BK877.out 3).trans rfl; have hfz21_0 := blk_frozen BK877.out 0; have hfz21_1 := blk_frozen BK877.out 1; have hfz21_2 := blk_frozen BK877.out 2; have hfz21_3 := blk_frozen BK877.out 3; have hcz22_0 : w19.cell? ⟨gb871, 0, none⟩ = some (.int .i64 t866) := (blk_cell BK871.out 0).trans rfl; have hcz22_1 : w19.cell? ⟨gb871, 1, none⟩ = some (.int .i64 t867) := (blk_cell BK871.out 1).trans rfl; have hcz22_2 : w19.cell? ⟨gb871, 2, none⟩ = some (.int .i64 t868) := (blk_cell BK871.out 2).trans rfl; have hcz22_3 : w19.cell? ⟨gb871, 3, none⟩ = some (.int .i64 t869) := (blk_cell BK871.out 3).trans rfl; have hfz22_0 := blk_frozen BK871.out 0; have hfz22_1 := blk_frozen BK871.out 1; have hfz22_2 := blk_frozen BK871.out 2; have hfz22_3 := blk_frozen BK871.out 3) | ((with_reducible refine gate_callee (f := 13) rfl ?_); refine gl_ (some 58) Try.func13 #[.agg #[.int .i64 t866, .int .i64 t867, .int .i64 t868, .int .i64 t869], .int .i64 t870] ?_; (with_reducible refine (spec_TurnTile.calls k t866 t867 t868 t869 t870 t878 t879 t880 t881 t882 _ A18.out).mono ?_); rintro e w23 ⟨rfl, hb⟩; refine ⟨_, rfl, ?_⟩; have n0_ := A0_ (Kd.Q_below (by (with_reducible repeat (first | apply Qa_ | apply Qn_ | apply Qd_)); exact (Kd.Q_mono (Kd.Q_far (p := ⟨gb877, 3, none⟩) (Kd.Q_far (p := ⟨gb877, 2, none⟩) (Kd.Q_far (p := ⟨gb877, 1, none⟩) (Kd.Q_far (p := ⟨gb877, 0, none⟩) (Kd.Q_mono HO855.out (fun k_ hk => (⟨hk, hk.2⟩ : _ ∧ k_ ≠ gb877))) (fun _ hk => hk.2) (.int .i64 t872)) (fun _ hk => hk.2) (.int .i64 t873)) (fun _ hk => hk.2) (.int .i64 t874)) (fun _ hk => hk.2) (.int .i64 t875)) (fun _ h_ => h_.1))) hb); have n1_ := A0_ (Kd.Q_below (by (with_reducible repeat (first | apply Qa_ | apply Qn_ | apply Qd_)); exact (Kd.Q_mono (Kd.Q_far (p := ⟨gb877, 3, none⟩) (Kd.Q_far (p := ⟨gb877, 2, none⟩) (Kd.Q_far (p := ⟨gb877, 1, none⟩) (Kd.Q_far (p := ⟨gb877, 0, none⟩) (Kd.Q_types HO857.out BK877.out (by decide)) (fun _ hk => hk.2) (.int .i64 t872)) (fun _ hk => hk.2) (.int .i64 t873)) (fun _ hk => hk.2) (.int .i64 t874)) (fun _ hk => hk.2) (.int .i64 t875)) (fun _ h_ => h_.1))) hb); have n2_ := A0_ (Kd.R_below (by (with_reducible repeat (first | apply Ra_ | apply Rn_ | apply Rd_)); exact (Kd.R_mono (Kd.R_far (p := ⟨gb877, 3, none⟩) (Kd.R_far (p := ⟨gb877, 2, none⟩) (Kd.R_far (p := ⟨gb877, 1, none⟩) (Kd.R_far (p := ⟨gb877, 0, none⟩) (Kd.R_types HO861.out BK877.out (by decide)) (fun _ hk => hk.2) (.int .i64 t872)) (fun _ hk => hk.2) (.int .i64 t873)) (fun _ hk => hk.2) (.int .i64 t874)) (fun _ hk => hk.2) (.int .i64 t875)) (fun _ h_ => h_.1))) hb); have n3_ := A0_ (Kd.R_below (by (with_reducible repeat (first | apply Ra_ | apply Rn_ | apply Rd_)); exact (Kd.R_mono (Kd.R_far (p := ⟨gb877, 3, none⟩) (Kd.R_far (p := ⟨gb877, 2, none⟩) (Kd.R_far (p := ⟨gb877, 1, none⟩) (Kd.R_far (p := ⟨gb877, 0, none⟩) (Kd.R_types HO865.out BK877.out (by decide)) (fun _ hk => hk.2) (.int .i64 t872)) (fun _ hk => hk.2) (.int .i64 t873)) (fun _ hk => hk.2) (.int .i64 t874)) (fun _ hk => hk.2) (.int .i64 t875)) (fun _ h_ => h_.1))) hb); have n4_ := A0_ (blk_below (g := gb871) (o := .cells #[.int .i64 t866, .int .i64 t867, .int .i64 t868, .int .i64 t869] 24 (0, 0)) (by (with_reducible repeat (first | apply gn_ | apply gd_ | apply ga_)); refine blk_far ?_ NB871_877.out _; (with_reducible repeat (first | apply gn_ | apply gd_ | apply ga_)); refine blk_far ?_ NB871_877.out _; (with_reducible repeat (first | apply gn_ | apply gd_ | apply ga_)); refine blk_far ?_ NB871_877.out _; (with_reducible repeat (first | apply gn_ | apply gd_ | apply ga_)); refine blk_far ?_ NB871_877.out _; exact bk_ BK871) hb); have n5_ := A0_ (blk_below (g := gb877) (o := .cells #[.int .i64 t872, .int .i64 t873, .int .i64 t874, .int .i64 t875] 24 (0, 0)) (by (with_reducible repeat (first | apply gn_ | apply gd_ | apply ga_)); refine blk_put (cs := #[.int .i64 t872, .int .i64 t873, .int .i64 t874, .int .i64 0]) ?_ 3 _ rfl; (with_reducible repeat (first | apply gn_ | apply gd_ | apply ga_)); refine blk_put (cs := #[.int .i64 t872, .int .i64 t873, .int .i64 0, .int .i64 0]) ?_ 2 _ rfl; (with_reducible repeat (first | apply gn_ | apply gd_ | apply ga_)); refine blk_put (cs := #[.int .i64 t872, .int .i64 0, .int .i64 0, .int .i64 0]) ?_ 1 _ rfl; (with_reducible repeat (first | apply gn_ | apply gd_ | apply ga_)); refine blk_put (cs := #[.int .i64 0, .int .i64 0, .int .i64 0, .int .i64 0]) ?_ 0 _ rfl; exact bk_ BK877) hb); have n6_ := A0_ (below_step bx_ hb); clear HO855; clear HO857; clear HO861; clear HO865; clear BK871; clear BK877; clear HB; have HO855 := n0_; have HO857 := n1_; have HO861 := n2_; have HO865 := n3_; have BK871 := n4_; have BK877 := n5_; have HB := n6_; clear n0_ n1_ n2_ n3_ n4_ n5_ n6_; (try clear hb); (try clear hb2); (try clear hk); (try clear hi); refine Stop0.out ?_))
  (refine Stop0.mk ?_); (have H := H0_.out); clear H0_; (have HC24 := A0_ H); clear H; (go_upto_region 9 with (first | ((with_reducible refine gate_dst (N := 15) rfl ?_); refine be_ (N := 15) (cs := #[.int .i64 0, .int .i64 0, .int .i64 0, .int .i64 0]) (t := 24) ?_; intro gb883 hg w25 hbox hb; have n0_ := A0_ (Kd.Q_below (Kd.Q_elderB (by (with_reducible repeat (first | apply Qa_ | apply Qn_ | apply Qd_)); exact HO855.out) gb883 (Nat.le_of_eq hg.symm)) hb); have n1_ := A0_ (Kd.Q_below (by (with_reducible repeat (first | apply Qa_ | apply Qn_ | apply Qd_)); exact HO857.out) hb); have n2_ := A0_ (Kd.R_below (by (with_reducible repeat (first | apply Ra_ | apply Rn_ | apply Rd_)); exact HO861.out) hb); have n3_ := A0_ (Kd.R_below (by (with_reducible repeat (first | apply Ra_ | apply Rn_ | apply Rd_)); exact HO865.out) hb); have n4_ := A0_ (blk_below (g := gb871) (o := .cells #[.int .i64 t866, .int .i64 t867, .int .i64 t868, .int .i64 t869] 24 (0, 0)) (bk_ BK871) hb); have n5_ := A0_ (blk_below (g := gb877) (o := .cells #[.int .i64 t872, .int .i64 t873, .int .i64 t874, .int .i64 t875] 24 (0, 0)) (bk_ BK877) hb); have n6_ := A0_ (below_step bx_ hb); have n7_ := A0_ (hbox); have n8_ := A0_ ((by rw [hg]; exact (below_size bx_) : w.heap.size ≤ gb883)); have n9_ := A0_ ((by rw [hg]; exact (below_size bx_) : w.heap.size ≤ gb883)); have n10_ := A0_ ((by rw [hg]; exact Nat.ne_of_lt (blk_lt (g := gb871) (o := .cells #[.int .i64 t866, .int .i64 t867, .int .i64 t868, .int .i64 t869] 24 (0, 0)) (bk_ BK871)) : gb871 ≠ gb883)); have n11_ := A0_ ((by rw [hg]; exact Nat.ne_of_gt (blk_lt (g := gb871) (o := .cells #[.int .i64 t866, .int .i64 t867, .int .i64 t868, .int .i64 t869] 24 (0, 0)) (bk_ BK871)) : gb883 ≠ gb871)); have n12_ := A0_ ((by rw [hg]; exact Nat.ne_of_lt (blk_lt (g := gb877) (o := .cells #[.int .i64 t872, .int .i64 t873, .int .i64 t874, .int .i64 t875] 24 (0, 0)) (bk_ BK877)) : gb877 ≠ gb883)); have n13_ := A0_ ((by rw [hg]; exact Nat.ne_of_gt (blk_lt (g := gb877) (o := .cells #[.int .i64 t872, .int .i64 t873, .int .i64 t874, .int .i64 t875] 24 (0, 0)) (bk_ BK877)) : gb883 ≠ gb877)); clear HO855; clear HO857; clear HO861; clear HO865; clear BK871; clear BK877; clear HB; have HO855 := n0_; have HO857 := n1_; have HO861 := n2_; have HO865 := n3_; have BK871 := n4_; have BK877 := n5_; have HB := n6_; have BK883 := n7_; have GW883 := n8_; have GE883 := n9_; have NB871_883 := n10_; have NB883_871 := n11_; have NB877_883 := n12_; have NB883_877 := n13_; clear n0_ n1_ n2_ n3_ n4_ n5_ n6_ n7_ n8_ n9_ n10_ n11_ n12_ n13_; clear hb hbox hg; have hnb26 := NB883_871.out; have hnc26 := NB871_883.out; have hnb27 := NB883_877.out; have hnc27 := NB877_883.out; have hcz28_0 : w25.cell? ⟨gb883, 0, none⟩ = some (.int .i64 0) := (blk_cell BK883.out 0).trans rfl; have hcz28_1 : w25.cell? ⟨gb883, 1, none⟩ = some (.int .i64 0) := (blk_cell BK883.out 1).trans rfl; have hcz28_2 : w25.cell? ⟨gb883, 2, none⟩ = some (.int .i64 0) := (blk_cell BK883.out 2).trans rfl; have hcz28_3 : w25.cell? ⟨gb883, 3, none⟩ = some (.int .i64 0) := (blk_cell BK883.out 3).trans rfl; have hfz28_0 := blk_frozen BK883.out 0; have hfz28_1 := blk_frozen BK883.out 1; have hfz28_2 := blk_frozen BK883.out 2; have hfz28_3 := blk_frozen BK883.out 3))); ((try simp only [Act.put, List.setIfInBounds_toArray, List.set_cons_zero, List.set_cons_succ]))
  go_cut [92] (fun v92 wc => ∃ (kq : Nat) (x92_23 : Bool), v92 = .bool x92_23 ∧ Aside0 (laws_FnTurnedLayouts.j0 kq t850 t851 t852 t858 t859 t870 t876 x92_23 t866 t867 t868 t869 t872 t873 t874 t875 = some r) ∧ Aside0 (kq ≤ k) ∧ Aside0 (Kd.Q k24 24 wc w.heap.size (fun k_ => k_ ≠ gb871 ∧ k_ ≠ gb877 ∧ k_ ≠ gb883) (.slice Ao7 t850.length co7) t850) ∧ Aside0 (Kd.R k74 74 wc w.heap.size (fun _ => True) v860 t858) ∧ Aside0 (wc.heap[gb871]? = some (.cells #[.int .i64 t866, .int .i64 t867, .int .i64 t868, .int .i64 t869] 24 (0, 0))) ∧ Aside0 (wc.heap[gb877]? = some (.cells #[.int .i64 t872, .int .i64 t873, .int .i64 t874, .int .i64 t875] 24 (0, 0))) ∧ Aside0 (wc.heap[gb883]? = some (.cells #[.int .i64 t878, .int .i64 t879, .int .i64 t880, .int .i64 t881] 24 (0, 0))) ∧ Aside0 (Below w.heap.size w wc))
  case first =>
   (have H := HC24.out); clear HC24; (by_cases c29 : t859 = t863)
   ·(rw [if_pos c29] at H); (have c29b0 : (t859 == t863) = true := beq_iff_eq.mpr c29); (have c29b1 : (t859 != t863) = false := bne_eq_false_iff_eq.mpr c29); clear c29; ((first | rw [c29b0] | (simp only [i64_w, i32_w]; rw [c29b0]) | skip)); (replace H := Option.bind_eq_some_iff.mp H); (obtain ⟨t884, A300, H⟩ := H); (try dsimp only at H); (have A30 := A0_ A300); clear A300; (have H0_ := A0_ H); clear H; (obtain ⟨Ao31, co31, eo31⟩ := Kd.R_slice HO861.out); subst eo31; (obtain ⟨Ao32, co32, eo32⟩ := Kd.R_slice HO865.out); subst eo32
    go_wp2_with (first | (go_at_call 47; (with_reducible refine (laws_likeSets.calls k _ _ t858 _ _ t862 t884 _ ?side1 ?side2 ?side3 ?side4 A30.out).mono ?_); (case side1 => refine (Kd.R_reads' (e := 74) (base := w.heap.size) (ok := fun k_ => ((True ∧ some k_ ≠ (.slice Ao8 t853.length co8 : Value).ownBlock) ∧ some k_ ≠ (.slice Ao32 t862.length co32 : Value).ownBlock)) (n := t858.length) (c := co31) ?_).2.2; exact (by (with_reducible repeat (first | apply Ra_ | apply Rn_ | apply Rd_)); exact (Kd.R_mono (Kd.R_far (p := ⟨gb883, 3, none⟩) (Kd.R_far (p := ⟨gb883, 2, none⟩) (Kd.R_far (p := ⟨gb883, 1, none⟩) (Kd.R_far (p := ⟨gb883, 0, none⟩) (Kd.R_types HO861.out BK883.out (by decide)) (fun _ hk => hk.2) (.int .i64 t878)) (fun _ hk => hk.2) (.int .i64 t879)) (fun _ hk => hk.2) (.int .i64 t880)) (fun _ hk => hk.2) (.int .i64 t881)) (fun _ h_ => h_.1)))); (case side2 => exact (Kd.R_reads' HO861.out).2.1); (case side3 => refine (Kd.R_reads' (e := 74) (base := w.heap.size) (ok := fun k_ => ((True ∧ some k_ ≠ (.slice Ao8 t853.length co8 : Value).ownBlock) ∧ some k_ ≠ (.slice Ao31 t858.length co31 : Value).ownBlock)) (n := t862.length) (c := co32) ?_).2.2; exact (by (with_reducible repeat (first | apply Ra_ | apply Rn_ | apply Rd_)); exact (Kd.R_mono (Kd.R_far (p := ⟨gb883, 3, none⟩) (Kd.R_far (p := ⟨gb883, 2, none⟩) (Kd.R_far (p := ⟨gb883, 1, none⟩) (Kd.R_far (p := ⟨gb883, 0, none⟩) (Kd.R_types HO865.out BK883.out (by decide)) (fun _ hk => hk.2) (.int .i64 t878)) (fun _ hk => hk.2) (.int .i64 t879)) (fun _ hk => hk.2) (.int .i64 t880)) (fun _ hk => hk.2) (.int .i64 t881)) (fun _ h_ => h_.1)))); (case side4 => exact (Kd.R_reads' HO865.out).2.1); rintro e w' ⟨rfl, ⟨nd, rfl⟩⟩; refine Stop0.out ?_))
    (refine Stop0.mk ?_); (have H := H0_.out); clear H0_; (by_cases c33 : t884 = true)
    ·subst c33; (have H1 := H); (rw [if_pos rfl] at H1); clear H; (have H := H1); clear H1; (by_cases c34 : t876 = t882)
     ·(rw [if_pos c34] at H); (have c34b0 : (t876 == t882) = true := beq_iff_eq.mpr c34); (have c34b1 : (t876 != t882) = false := bne_eq_false_iff_eq.mpr c34); clear c34; (by_cases c35 : (!(t872 == t878) || (!(t873 == t879) || (!(t874 == t880) || (!(t875 == t881))))) = true)
      ·(rw [if_pos c35] at H); (have c35b0 : (!(t872 == t878) || (!(t873 == t879) || (!(t874 == t880) || (!(t875 == t881))))) = true := c35); clear c35; (have H' := A0_ H); clear H; (have hnb36 := NB877_871.out); (have hnc36 := NB871_877.out); (have hnb37 := NB877_883.out); (have hnc37 := NB883_877.out); (have hcz38_0 : w25.cell? ⟨gb877, 0, none⟩ = some (.int .i64 t872) := (blk_cell BK877.out 0).trans rfl); (have hcz38_1 : w25.cell? ⟨gb877, 1, none⟩ = some (.int .i64 t873) := (blk_cell BK877.out 1).trans rfl); (have hcz38_2 : w25.cell? ⟨gb877, 2, none⟩ = some (.int .i64 t874) := (blk_cell BK877.out 2).trans rfl); (have hcz38_3 : w25.cell? ⟨gb877, 3, none⟩ = some (.int .i64 t875) := (blk_cell BK877.out 3).trans rfl); (have hfz38_0 := blk_frozen BK877.out 0); (have hfz38_1 := blk_frozen BK877.out 1); (have hfz38_2 := blk_frozen BK877.out 2); (have hfz38_3 := blk_frozen BK877.out 3); (have hnb39 := NB883_871.out); (have hnc39 := NB871_883.out); (have hcz40_0 : w25.cell? ⟨gb883, 0, none⟩ = some (.int .i64 0) := (blk_cell BK883.out 0).trans rfl); (have hcz40_1 : w25.cell? ⟨gb883, 1, none⟩ = some (.int .i64 0) := (blk_cell BK883.out 1).trans rfl); (have hcz40_2 : w25.cell? ⟨gb883, 2, none⟩ = some (.int .i64 0) := (blk_cell BK883.out 2).trans rfl); (have hcz40_3 : w25.cell? ⟨gb883, 3, none⟩ = some (.int .i64 0) := (blk_cell BK883.out 3).trans rfl); (have hfz40_0 := blk_frozen BK883.out 0); (have hfz40_1 := blk_frozen BK883.out 1); (have hfz40_2 := blk_frozen BK883.out 2); (have hfz40_3 := blk_frozen BK883.out 3); go_wp2; (go_meet)
       case rel => exact ⟨_, (true), (by first | rfl | (simp; done) | (simp [*]; done)), H', ⟨by first | omega | exact Nat.le_refl _⟩, ⟨by (with_reducible repeat (first | apply Qa_ | apply Qn_ | apply Qd_)); exact Kd.Q_mono (Kd.Q_far (p := ⟨gb883, 3, none⟩) (Kd.Q_far (p := ⟨gb883, 2, none⟩) (Kd.Q_far (p := ⟨gb883, 1, none⟩) (Kd.Q_far (p := ⟨gb883, 0, none⟩) (Kd.Q_mono HO855.out (fun k_ hk => (⟨hk, hk.2⟩ : _ ∧ k_ ≠ gb883))) (fun _ hk => hk.2) (.int .i64 t878)) (fun _ hk => hk.2) (.int .i64 t879)) (fun _ hk => hk.2) (.int .i64 t880)) (fun _ hk => hk.2) (.int .i64 t881)) (fun _ hk => ⟨hk.1.1.1.2, ⟨hk.1.1.2, hk.1.2⟩⟩)⟩, ⟨by (with_reducible repeat (first | apply Ra_ | apply Rn_ | apply Rd_)); exact Kd.R_mono (Kd.R_far (p := ⟨gb883, 3, none⟩) (Kd.R_far (p := ⟨gb883, 2, none⟩) (Kd.R_far (p := ⟨gb883, 1, none⟩) (Kd.R_far (p := ⟨gb883, 0, none⟩) (Kd.R_types HO861.out BK883.out (by decide)) (fun _ hk => hk.2) (.int .i64 t878)) (fun _ hk => hk.2) (.int .i64 t879)) (fun _ hk => hk.2) (.int .i64 t880)) (fun _ hk => hk.2) (.int .i64 t881)) (fun _ hk => trivial)⟩, ⟨by (with_reducible repeat (first | apply gn_ | apply gd_ | apply ga_)); refine blk_far ?_ NB871_883.out _; (with_reducible repeat (first | apply gn_ | apply gd_ | apply ga_)); refine blk_far ?_ NB871_883.out _; (with_reducible repeat (first | apply gn_ | apply gd_ | apply ga_)); refine blk_far ?_ NB871_883.out _; (with_reducible repeat (first | apply gn_ | apply gd_ | apply ga_)); refine blk_far ?_ NB871_883.out _; exact bk_ BK871⟩, ⟨by (with_reducible repeat (first | apply gn_ | apply gd_ | apply ga_)); refine blk_far ?_ NB877_883.out _; (with_reducible repeat (first | apply gn_ | apply gd_ | apply ga_)); refine blk_far ?_ NB877_883.out _; (with_reducible repeat (first | apply gn_ | apply gd_ | apply ga_)); refine blk_far ?_ NB877_883.out _; (with_reducible repeat (first | apply gn_ | apply gd_ | apply ga_)); refine blk_far ?_ NB877_883.out _; exact bk_ BK877⟩, ⟨by (with_reducible repeat (first | apply gn_ | apply gd_ | apply ga_)); refine blk_put (cs := #[.int .i64 t878, .int .i64 t879, .int .i64 t880, .int .i64 0]) ?_ 3 _ rfl; (with_reducible repeat (first | apply gn_ | apply gd_ | apply ga_)); refine blk_put (cs := #[.int .i64 t878, .int .i64 t879, .int .i64 0, .int .i64 0]) ?_ 2 _ rfl; (with_reducible repeat (first | apply gn_ | apply gd_ | apply ga_)); refine blk_put (cs := #[.int .i64 t878, .int .i64 0, .int .i64 0, .int .i64 0]) ?_ 1 _ rfl; (with_reducible repeat (first | apply gn_ | apply gd_ | apply ga_)); refine blk_put (cs := #[.int .i64 0, .int .i64 0, .int .i64 0, .int .i64 0]) ?_ 0 _ rfl; exact bk_ BK883⟩, ⟨by repeat (first | (with_reducible first | exact HB.out | apply ba_ | apply bn_ | apply bd_ | refine below_set ?_ GE871.out | refine below_set ?_ GE877.out | refine below_set ?_ GE883.out) | exact HB.out)⟩⟩
      ·(rw [if_neg c35] at H); (have c35b0 : (!(t872 == t878) || (!(t873 == t879) || (!(t874 == t880) || (!(t875 == t881))))) = false := by simpa using c35); clear c35; (replace H := Option.bind_eq_some_iff.mp H); (obtain ⟨t885, A410, H⟩ := H); (try dsimp only at H); (have A41 := A0_ A410); clear A410; (have H0_ := A0_ H); clear H; (have hnb42 := NB877_871.out); (have hnc42 := NB871_877.out); (have hnb43 := NB877_883.out); (have hnc43 := NB883_877.out); (have hcz44_0 : w25.cell? ⟨gb877, 0, none⟩ = some (.int .i64 t872) := (blk_cell BK877.out 0).trans rfl); (have hcz44_1 : w25.cell? ⟨gb877, 1, none⟩ = some (.int .i64 t873) := (blk_cell BK877.out 1).trans rfl); (have hcz44_2 : w25.cell? ⟨gb877, 2, none⟩ = some (.int .i64 t874) := (blk_cell BK877.out 2).trans rfl); (have hcz44_3 : w25.cell? ⟨gb877, 3, none⟩ = some (.int .i64 t875) := (blk_cell BK877.out 3).trans rfl); (have hfz44_0 := blk_frozen BK877.out 0); (have hfz44_1 := blk_frozen BK877.out 1); (have hfz44_2 := blk_frozen BK877.out 2); (have hfz44_3 := blk_frozen BK877.out 3); (have hnb45 := NB883_871.out); (have hnc45 := NB871_883.out); (have hcz46_0 : w25.cell? ⟨gb883, 0, none⟩ = some (.int .i64 0) := (blk_cell BK883.out 0).trans rfl); (have hcz46_1 : w25.cell? ⟨gb883, 1, none⟩ = some (.int .i64 0) := (blk_cell BK883.out 1).trans rfl); (have hcz46_2 : w25.cell? ⟨gb883, 2, none⟩ = some (.int .i64 0) := (blk_cell BK883.out 2).trans rfl); (have hcz46_3 : w25.cell? ⟨gb883, 3, none⟩ = some (.int .i64 0) := (blk_cell BK883.out 3).trans rfl); (have hfz46_0 := blk_frozen BK883.out 0); (have hfz46_1 := blk_frozen BK883.out 1); (have hfz46_2 := blk_frozen BK883.out 2); (have hfz46_3 := blk_frozen BK883.out 3)
       go_wp2_with (first | (go_at_call 35; (with_reducible refine (impl_IsCorrectLayout.calls k _ _ t850 t851 t852 _ _ t853 t885 _ ?side1 ?side2 ?side3 ?side4 A41.out).mono ?_); (case side1 => refine (Kd.Q_reads' (e := 24) (base := w.heap.size) (ok := fun k_ => (((True ∧ k_ ≠ gb871) ∧ k_ ≠ gb877) ∧ k_ ≠ gb883)) (n := t850.length) (c := co7) ?_).2.2; exact (by (with_reducible repeat (first | apply Qa_ | apply Qn_ | apply Qd_)); exact (Kd.Q_mono (Kd.Q_far (p := ⟨gb883, 3, none⟩) (Kd.Q_far (p := ⟨gb883, 2, none⟩) (Kd.Q_far (p := ⟨gb883, 1, none⟩) (Kd.Q_far (p := ⟨gb883, 0, none⟩) (Kd.Q_mono HO855.out (fun k_ hk => (⟨hk, hk.2⟩ : _ ∧ k_ ≠ gb883))) (fun _ hk => hk.2) (.int .i64 t878)) (fun _ hk => hk.2) (.int .i64 t879)) (fun _ hk => hk.2) (.int .i64 t880)) (fun _ hk => hk.2) (.int .i64 t881)) (fun _ h_ => h_.1)))); (case side2 => exact (Kd.Q_reads' HO855.out).2.1); (case side3 => refine (Kd.Q_reads' (e := 74) (base := w.heap.size) (ok := fun k_ => ((True ∧ some k_ ≠ (.slice Ao31 t858.length co31 : Value).ownBlock) ∧ some k_ ≠ (.slice Ao32 t862.length co32 : Value).ownBlock)) (n := t853.length) (c := co8) ?_).2.2; exact (by (with_reducible repeat (first | apply Qa_ | apply Qn_ | apply Qd_)); exact (Kd.Q_mono (Kd.Q_far (p := ⟨gb883, 3, none⟩) (Kd.Q_far (p := ⟨gb883, 2, none⟩) (Kd.Q_far (p := ⟨gb883, 1, none⟩) (Kd.Q_far (p := ⟨gb883, 0, none⟩) (Kd.Q_types HO857.out BK883.out (by decide)) (fun _ hk => hk.2) (.int .i64 t878)) (fun _ hk => hk.2) (.int .i64 t879)) (fun _ hk => hk.2) (.int .i64 t880)) (fun _ hk => hk.2) (.int .i64 t881)) (fun _ h_ => h_.1)))); (case side4 => exact (Kd.Q_reads' HO857.out).2.1); rintro e w47 ⟨rfl, hb⟩; have n0_ := A0_ (Kd.Q_below (by (with_reducible repeat (first | apply Qa_ | apply Qn_ | apply Qd_)); exact (Kd.Q_mono (Kd.Q_far (p := ⟨gb883, 3, none⟩) (Kd.Q_far (p := ⟨gb883, 2, none⟩) (Kd.Q_far (p := ⟨gb883, 1, none⟩) (Kd.Q_far (p := ⟨gb883, 0, none⟩) (Kd.Q_mono HO855.out (fun k_ hk => (⟨hk, hk.2⟩ : _ ∧ k_ ≠ gb883))) (fun _ hk => hk.2) (.int .i64 t878)) (fun _ hk => hk.2) (.int .i64 t879)) (fun _ hk => hk.2) (.int .i64 t880)) (fun _ hk => hk.2) (.int .i64 t881)) (fun _ h_ => h_.1))) hb); have n1_ := A0_ (Kd.Q_below (by (with_reducible repeat (first | apply Qa_ | apply Qn_ | apply Qd_)); exact (Kd.Q_mono (Kd.Q_far (p := ⟨gb883, 3, none⟩) (Kd.Q_far (p := ⟨gb883, 2, none⟩) (Kd.Q_far (p := ⟨gb883, 1, none⟩) (Kd.Q_far (p := ⟨gb883, 0, none⟩) (Kd.Q_types HO857.out BK883.out (by decide)) (fun _ hk => hk.2) (.int .i64 t878)) (fun _ hk => hk.2) (.int .i64 t879)) (fun _ hk => hk.2) (.int .i64 t880)) (fun _ hk => hk.2) (.int .i64 t881)) (fun _ h_ => h_.1))) hb); have n2_ := A0_ (Kd.R_below (by (with_reducible repeat (first | apply Ra_ | apply Rn_ | apply Rd_)); exact (Kd.R_mono (Kd.R_far (p := ⟨gb883, 3, none⟩) (Kd.R_far (p := ⟨gb883, 2, none⟩) (Kd.R_far (p := ⟨gb883, 1, none⟩) (Kd.R_far (p := ⟨gb883, 0, none⟩) (Kd.R_types HO861.out BK883.out (by decide)) (fun _ hk => hk.2) (.int .i64 t878)) (fun _ hk => hk.2) (.int .i64 t879)) (fun _ hk => hk.2) (.int .i64 t880)) (fun _ hk => hk.2) (.int .i64 t881)) (fun _ h_ => h_.1))) hb); have n3_ := A0_ (Kd.R_below (by (with_reducible repeat (first | apply Ra_ | apply Rn_ | apply Rd_)); exact (Kd.R_mono (Kd.R_far (p := ⟨gb883, 3, none⟩) (Kd.R_far (p := ⟨gb883, 2, none⟩) (Kd.R_far (p := ⟨gb883, 1, none⟩) (Kd.R_far (p := ⟨gb883, 0, none⟩) (Kd.R_types HO865.out BK883.out (by decide)) (fun _ hk => hk.2) (.int .i64 t878)) (fun _ hk => hk.2) (.int .i64 t879)) (fun _ hk => hk.2) (.int .i64 t880)) (fun _ hk => hk.2) (.int .i64 t881)) (fun _ h_ => h_.1))) hb); have n4_ := A0_ (blk_below (g := gb871) (o := .cells #[.int .i64 t866, .int .i64 t867, .int .i64 t868, .int .i64 t869] 24 (0, 0)) (by (with_reducible repeat (first | apply gn_ | apply gd_ | apply ga_)); refine blk_far ?_ NB871_883.out _; (with_reducible repeat (first | apply gn_ | apply gd_ | apply ga_)); refine blk_far ?_ NB871_883.out _; (with_reducible repeat (first | apply gn_ | apply gd_ | apply ga_)); refine blk_far ?_ NB871_883.out _; (with_reducible repeat (first | apply gn_ | apply gd_ | apply ga_)); refine blk_far ?_ NB871_883.out _; exact bk_ BK871) hb); have n5_ := A0_ (blk_below (g := gb877) (o := .cells #[.int .i64 t872, .int .i64 t873, .int .i64 t874, .int .i64 t875] 24 (0, 0)) (by (with_reducible repeat (first | apply gn_ | apply gd_ | apply ga_)); refine blk_far ?_ NB877_883.out _; (with_reducible repeat (first | apply gn_ | apply gd_ | apply ga_)); refine blk_far ?_ NB877_883.out _; (with_reducible repeat (first | apply gn_ | apply gd_ | apply ga_)); refine blk_far ?_ NB877_883.out _; (with_reducible repeat (first | apply gn_ | apply gd_ | apply ga_)); refine blk_far ?_ NB877_883.out _; exact bk_ BK877) hb); have n6_ := A0_ (blk_below (g := gb883) (o := .cells #[.int .i64 t878, .int .i64 t879, .int .i64 t880, .int .i64 t881] 24 (0, 0)) (by (with_reducible repeat (first | apply gn_ | apply gd_ | apply ga_)); refine blk_put (cs := #[.int .i64 t878, .int .i64 t879, .int .i64 t880, .int .i64 0]) ?_ 3 _ rfl; (with_reducible repeat (first | apply gn_ | apply gd_ | apply ga_)); refine blk_put (cs := #[.int .i64 t878, .int .i64 t879, .int .i64 0, .int .i64 0]) ?_ 2 _ rfl; (with_reducible repeat (first | apply gn_ | apply gd_ | apply ga_)); refine blk_put (cs := #[.int .i64 t878, .int .i64 0, .int .i64 0, .int .i64 0]) ?_ 1 _ rfl; (with_reducible repeat (first | apply gn_ | apply gd_ | apply ga_)); refine blk_put (cs := #[.int .i64 0, .int .i64 0, .int .i64 0, .int .i64 0]) ?_ 0 _ rfl; exact bk_ BK883) hb); have n7_ := A0_ (below_step bx_ hb); clear HO855; clear HO857; clear HO861; clear HO865; clear BK871; clear BK877; clear BK883; clear HB; have HO855 := n0_; have HO857 := n1_; have HO861 := n2_; have HO865 := n3_; have BK871 := n4_; have BK877 := n5_; have BK883 := n6_; have HB := n7_; clear n0_ n1_ n2_ n3_ n4_ n5_ n6_ n7_; (try clear hb); (try clear hb2); (try clear hk); (try clear hi); refine Stop0.out ?_))
       (refine Stop0.mk ?_); (have H := H0_.out); clear H0_; (replace H := Option.bind_eq_some_iff.mp H); (obtain ⟨t886, A480, H⟩ := H); (try dsimp only at H); (have A48 := A0_ A480); clear A480; (have H0_ := A0_ H); clear H; (go_wp2_with (first | (go_at_call 33; (with_reducible refine (spec_IsCorrectLayout.calls k _ _ t850 t851 t852 _ _ t853 t886 _ ?side1 ?side2 ?side3 ?side4 A48.out).mono ?_); (case side1 => exact kc_ (Kd.Q_reads' HO855.out).2.2); (case side2 => exact (Kd.Q_reads' HO855.out).2.1); (case side3 => exact kc_ (Kd.Q_reads' HO857.out).2.2); (case side4 => exact (Kd.Q_reads' HO857.out).2.1); rintro e w49 ⟨rfl, hb⟩; have n0_ := A0_ (Kd.Q_below (by (with_reducible repeat (first | apply Qa_ | apply Qn_ | apply Qd_)); exact HO855.out) hb); have n1_ := A0_ (Kd.Q_below (by (with_reducible repeat (first | apply Qa_ | apply Qn_ | apply Qd_)); exact HO857.out) hb); have n2_ := A0_ (Kd.R_below (by (with_reducible repeat (first | apply Ra_ | apply Rn_ | apply Rd_)); exact HO861.out) hb); have n3_ := A0_ (Kd.R_below (by (with_reducible repeat (first | apply Ra_ | apply Rn_ | apply Rd_)); exact HO865.out) hb); have n4_ := A0_ (blk_below (g := gb871) (o := .cells #[.int .i64 t866, .int .i64 t867, .int .i64 t868, .int .i64 t869] 24 (0, 0)) (bk_ BK871) hb); have n5_ := A0_ (blk_below (g := gb877) (o := .cells #[.int .i64 t872, .int .i64 t873, .int .i64 t874, .int .i64 t875] 24 (0, 0)) (bk_ BK877) hb); have n6_ := A0_ (blk_below (g := gb883) (o := .cells #[.int .i64 t878, .int .i64 t879, .int .i64 t880, .int .i64 t881] 24 (0, 0)) (bk_ BK883) hb); have n7_ := A0_ (below_step bx_ hb); clear HO855; clear HO857; clear HO861; clear HO865; clear BK871; clear BK877; clear BK883; clear HB; have HO855 := n0_; have HO857 := n1_; have HO861 := n2_; have HO865 := n3_; have BK871 := n4_; have BK877 := n5_; have BK883 := n6_; have HB := n7_; clear n0_ n1_ n2_ n3_ n4_ n5_ n6_ n7_; (try clear hb); (try clear hb2); (try clear hk); (try clear hi); refine Stop0.out ?_))); (refine Stop0.mk ?_); (have H := H0_.out); clear H0_; (have H' := A0_ H); clear H; go_wp2; (go_meet)
       case rel => exact ⟨_, ((t885 != t886)), (by first | rfl | (simp; done) | (simp [*]; done)), H', ⟨by first | omega | exact Nat.le_refl _⟩, ⟨by (with_reducible repeat (first | apply Qa_ | apply Qn_ | apply Qd_)); exact Kd.Q_mono HO855.out (fun _ hk => ⟨hk.1.1.2, ⟨hk.1.2, hk.2⟩⟩)⟩, ⟨by (with_reducible repeat (first | apply Ra_ | apply Rn_ | apply Rd_)); exact Kd.R_mono HO861.out (fun _ hk => trivial)⟩, ⟨by exact bk_ BK871⟩, ⟨by exact bk_ BK877⟩, ⟨by exact bk_ BK883⟩, ⟨by repeat (first | (with_reducible first | exact HB.out | apply ba_ | apply bn_ | apply bd_ | refine below_set ?_ GE871.out | refine below_set ?_ GE877.out | refine below_set ?_ GE883.out) | exact HB.out)⟩⟩
     ·(rw [if_neg c34] at H); (have c34b0 : (t876 == t882) = false := beq_eq_false_iff_ne.mpr c34); (have c34b1 : (t876 != t882) = true := bne_iff_ne.mpr c34); (have H' := A0_ H); clear H; go_wp2; (go_meet)
      case rel => exact ⟨_, (true), (by first | rfl | (simp; done) | (simp [*]; done)), H', ⟨by first | omega | exact Nat.le_refl _⟩, ⟨by (with_reducible repeat (first | apply Qa_ | apply Qn_ | apply Qd_)); exact Kd.Q_mono (Kd.Q_far (p := ⟨gb883, 3, none⟩) (Kd.Q_far (p := ⟨gb883, 2, none⟩) (Kd.Q_far (p := ⟨gb883, 1, none⟩) (Kd.Q_far (p := ⟨gb883, 0, none⟩) (Kd.Q_mono HO855.out (fun k_ hk => (⟨hk, hk.2⟩ : _ ∧ k_ ≠ gb883))) (fun _ hk => hk.2) (.int .i64 t878)) (fun _ hk => hk.2) (.int .i64 t879)) (fun _ hk => hk.2) (.int .i64 t880)) (fun _ hk => hk.2) (.int .i64 t881)) (fun _ hk => ⟨hk.1.1.1.2, ⟨hk.1.1.2, hk.1.2⟩⟩)⟩, ⟨by (with_reducible repeat (first | apply Ra_ | apply Rn_ | apply Rd_)); exact Kd.R_mono (Kd.R_far (p := ⟨gb883, 3, none⟩) (Kd.R_far (p := ⟨gb883, 2, none⟩) (Kd.R_far (p := ⟨gb883, 1, none⟩) (Kd.R_far (p := ⟨gb883, 0, none⟩) (Kd.R_types HO861.out BK883.out (by decide)) (fun _ hk => hk.2) (.int .i64 t878)) (fun _ hk => hk.2) (.int .i64 t879)) (fun _ hk => hk.2) (.int .i64 t880)) (fun _ hk => hk.2) (.int .i64 t881)) (fun _ hk => trivial)⟩, ⟨by (with_reducible repeat (first | apply gn_ | apply gd_ | apply ga_)); refine blk_far ?_ NB871_883.out _; (with_reducible repeat (first | apply gn_ | apply gd_ | apply ga_)); refine blk_far ?_ NB871_883.out _; (with_reducible repeat (first | apply gn_ | apply gd_ | apply ga_)); refine blk_far ?_ NB871_883.out _; (with_reducible repeat (first | apply gn_ | apply gd_ | apply ga_)); refine blk_far ?_ NB871_883.out _; exact bk_ BK871⟩, ⟨by (with_reducible repeat (first | apply gn_ | apply gd_ | apply ga_)); refine blk_far ?_ NB877_883.out _; (with_reducible repeat (first | apply gn_ | apply gd_ | apply ga_)); refine blk_far ?_ NB877_883.out _; (with_reducible repeat (first | apply gn_ | apply gd_ | apply ga_)); refine blk_far ?_ NB877_883.out _; (with_reducible repeat (first | apply gn_ | apply gd_ | apply ga_)); refine blk_far ?_ NB877_883.out _; exact bk_ BK877⟩, ⟨by (with_reducible repeat (first | apply gn_ | apply gd_ | apply ga_)); refine blk_put (cs := #[.int .i64 t878, .int .i64 t879, .int .i64 t880, .int .i64 0]) ?_ 3 _ rfl; (with_reducible repeat (first | apply gn_ | apply gd_ | apply ga_)); refine blk_put (cs := #[.int .i64 t878, .int .i64 t879, .int .i64 0, .int .i64 0]) ?_ 2 _ rfl; (with_reducible repeat (first | apply gn_ | apply gd_ | apply ga_)); refine blk_put (cs := #[.int .i64 t878, .int .i64 0, .int .i64 0, .int .i64 0]) ?_ 1 _ rfl; (with_reducible repeat (first | apply gn_ | apply gd_ | apply ga_)); refine blk_put (cs := #[.int .i64 0, .int .i64 0, .int .i64 0, .int .i64 0]) ?_ 0 _ rfl; exact bk_ BK883⟩, ⟨by repeat (first | (with_reducible first | exact HB.out | apply ba_ | apply bn_ | apply bd_ | refine below_set ?_ GE871.out | refine below_set ?_ GE877.out | refine below_set ?_ GE883.out) | exact HB.out)⟩⟩
    ·(replace c33 := Bool.eq_false_iff.mpr c33); subst c33; (have H1 : (laws_FnTurnedLayouts.j0 k t850 t851 t852 t858 t859 t870 t876 true t866 t867 t868 t869 t872 t873 t874 t875) = some r := by rw [if_neg (show ¬ (false = true) by decide)] at H; exact H); clear H; (have H := H1); clear H1; (have H' := A0_ H); clear H; go_wp2; (go_meet)
     case rel => exact ⟨_, (true), (by first | rfl | (simp; done) | (simp [*]; done)), H', ⟨by first | omega | exact Nat.le_refl _⟩, ⟨by (with_reducible repeat (first | apply Qa_ | apply Qn_ | apply Qd_)); exact Kd.Q_mono (Kd.Q_far (p := ⟨gb883, 3, none⟩) (Kd.Q_far (p := ⟨gb883, 2, none⟩) (Kd.Q_far (p := ⟨gb883, 1, none⟩) (Kd.Q_far (p := ⟨gb883, 0, none⟩) (Kd.Q_mono HO855.out (fun k_ hk => (⟨hk, hk.2⟩ : _ ∧ k_ ≠ gb883))) (fun _ hk => hk.2) (.int .i64 t878)) (fun _ hk => hk.2) (.int .i64 t879)) (fun _ hk => hk.2) (.int .i64 t880)) (fun _ hk => hk.2) (.int .i64 t881)) (fun _ hk => ⟨hk.1.1.1.2, ⟨hk.1.1.2, hk.1.2⟩⟩)⟩, ⟨by (with_reducible repeat (first | apply Ra_ | apply Rn_ | apply Rd_)); exact Kd.R_mono (Kd.R_far (p := ⟨gb883, 3, none⟩) (Kd.R_far (p := ⟨gb883, 2, none⟩) (Kd.R_far (p := ⟨gb883, 1, none⟩) (Kd.R_far (p := ⟨gb883, 0, none⟩) (Kd.R_types HO861.out BK883.out (by decide)) (fun _ hk => hk.2) (.int .i64 t878)) (fun _ hk => hk.2) (.int .i64 t879)) (fun _ hk => hk.2) (.int .i64 t880)) (fun _ hk => hk.2) (.int .i64 t881)) (fun _ hk => trivial)⟩, ⟨by (with_reducible repeat (first | apply gn_ | apply gd_ | apply ga_)); refine blk_far ?_ NB871_883.out _; (with_reducible repeat (first | apply gn_ | apply gd_ | apply ga_)); refine blk_far ?_ NB871_883.out _; (with_reducible repeat (first | apply gn_ | apply gd_ | apply ga_)); refine blk_far ?_ NB871_883.out _; (with_reducible repeat (first | apply gn_ | apply gd_ | apply ga_)); refine blk_far ?_ NB871_883.out _; exact bk_ BK871⟩, ⟨by (with_reducible repeat (first | apply gn_ | apply gd_ | apply ga_)); refine blk_far ?_ NB877_883.out _; (with_reducible repeat (first | apply gn_ | apply gd_ | apply ga_)); refine blk_far ?_ NB877_883.out _; (with_reducible repeat (first | apply gn_ | apply gd_ | apply ga_)); refine blk_far ?_ NB877_883.out _; (with_reducible repeat (first | apply gn_ | apply gd_ | apply ga_)); refine blk_far ?_ NB877_883.out _; exact bk_ BK877⟩, ⟨by (with_reducible repeat (first | apply gn_ | apply gd_ | apply ga_)); refine blk_put (cs := #[.int .i64 t878, .int .i64 t879, .int .i64 t880, .int .i64 0]) ?_ 3 _ rfl; (with_reducible repeat (first | apply gn_ | apply gd_ | apply ga_)); refine blk_put (cs := #[.int .i64 t878, .int .i64 t879, .int .i64 0, .int .i64 0]) ?_ 2 _ rfl; (with_reducible repeat (first | apply gn_ | apply gd_ | apply ga_)); refine blk_put (cs := #[.int .i64 t878, .int .i64 0, .int .i64 0, .int .i64 0]) ?_ 1 _ rfl; (with_reducible repeat (first | apply gn_ | apply gd_ | apply ga_)); refine blk_put (cs := #[.int .i64 0, .int .i64 0, .int .i64 0, .int .i64 0]) ?_ 0 _ rfl; exact bk_ BK883⟩, ⟨by repeat (first | (with_reducible first | exact HB.out | apply ba_ | apply bn_ | apply bd_ | refine below_set ?_ GE871.out | refine below_set ?_ GE877.out | refine below_set ?_ GE883.out) | exact HB.out)⟩⟩
   ·(rw [if_neg c29] at H); (have c29b0 : (t859 == t863) = false := beq_eq_false_iff_ne.mpr c29); (have c29b1 : (t859 != t863) = true := bne_iff_ne.mpr c29); ((first | rw [c29b0] | (simp only [i64_w, i32_w]; rw [c29b0]) | skip)); (have H' := A0_ H); clear H; go_wp2; (go_meet)
    case rel => exact ⟨_, (true), (by first | rfl | (simp; done) | (simp [*]; done)), H', ⟨by first | omega | exact Nat.le_refl _⟩, ⟨by (with_reducible repeat (first | apply Qa_ | apply Qn_ | apply Qd_)); exact Kd.Q_mono (Kd.Q_far (p := ⟨gb883, 3, none⟩) (Kd.Q_far (p := ⟨gb883, 2, none⟩) (Kd.Q_far (p := ⟨gb883, 1, none⟩) (Kd.Q_far (p := ⟨gb883, 0, none⟩) (Kd.Q_mono HO855.out (fun k_ hk => (⟨hk, hk.2⟩ : _ ∧ k_ ≠ gb883))) (fun _ hk => hk.2) (.int .i64 t878)) (fun _ hk => hk.2) (.int .i64 t879)) (fun _ hk => hk.2) (.int .i64 t880)) (fun _ hk => hk.2) (.int .i64 t881)) (fun _ hk => ⟨hk.1.1.1.2, ⟨hk.1.1.2, hk.1.2⟩⟩)⟩, ⟨by (with_reducible repeat (first | apply Ra_ | apply Rn_ | apply Rd_)); exact Kd.R_mono (Kd.R_far (p := ⟨gb883, 3, none⟩) (Kd.R_far (p := ⟨gb883, 2, none⟩) (Kd.R_far (p := ⟨gb883, 1, none⟩) (Kd.R_far (p := ⟨gb883, 0, none⟩) (Kd.R_types HO861.out BK883.out (by decide)) (fun _ hk => hk.2) (.int .i64 t878)) (fun _ hk => hk.2) (.int .i64 t879)) (fun _ hk => hk.2) (.int .i64 t880)) (fun _ hk => hk.2) (.int .i64 t881)) (fun _ hk => trivial)⟩, ⟨by (with_reducible repeat (first | apply gn_ | apply gd_ | apply ga_)); refine blk_far ?_ NB871_883.out _; (with_reducible repeat (first | apply gn_ | apply gd_ | apply ga_)); refine blk_far ?_ NB871_883.out _; (with_reducible repeat (first | apply gn_ | apply gd_ | apply ga_)); refine blk_far ?_ NB871_883.out _; (with_reducible repeat (first | apply gn_ | apply gd_ | apply ga_)); refine blk_far ?_ NB871_883.out _; exact bk_ BK871⟩, ⟨by (with_reducible repeat (first | apply gn_ | apply gd_ | apply ga_)); refine blk_far ?_ NB877_883.out _; (with_reducible repeat (first | apply gn_ | apply gd_ | apply ga_)); refine blk_far ?_ NB877_883.out _; (with_reducible repeat (first | apply gn_ | apply gd_ | apply ga_)); refine blk_far ?_ NB877_883.out _; (with_reducible repeat (first | apply gn_ | apply gd_ | apply ga_)); refine blk_far ?_ NB877_883.out _; exact bk_ BK877⟩, ⟨by (with_reducible repeat (first | apply gn_ | apply gd_ | apply ga_)); refine blk_put (cs := #[.int .i64 t878, .int .i64 t879, .int .i64 t880, .int .i64 0]) ?_ 3 _ rfl; (with_reducible repeat (first | apply gn_ | apply gd_ | apply ga_)); refine blk_put (cs := #[.int .i64 t878, .int .i64 t879, .int .i64 0, .int .i64 0]) ?_ 2 _ rfl; (with_reducible repeat (first | apply gn_ | apply gd_ | apply ga_)); refine blk_put (cs := #[.int .i64 t878, .int .i64 0, .int .i64 0, .int .i64 0]) ?_ 1 _ rfl; (with_reducible repeat (first | apply gn_ | apply gd_ | apply ga_)); refine blk_put (cs := #[.int .i64 0, .int .i64 0, .int .i64 0, .int .i64 0]) ?_ 0 _ rfl; exact bk_ BK883⟩, ⟨by repeat (first | (with_reducible first | exact HB.out | apply ba_ | apply bn_ | apply bd_ | refine below_set ?_ GE871.out | refine below_set ?_ GE877.out | refine below_set ?_ GE883.out) | exact HB.out)⟩⟩
  case rest =>
   clear HC24; (try clear c1); (try clear c2); (try clear p2); (try clear c3); (try clear c4); (try clear c11); (try clear c13); (try clear c15); (try clear c20); (try clear c26); (try clear c27); (try clear c28); (try clear c29); (try clear c29b0); (try clear c29b1); (try clear c33); (try clear c34); (try clear c34b0); (try clear c34b1); (try clear c35); (try clear c35b0); (try clear c36); (try clear c37); (try clear c39); (try clear c40); (try clear c42); (try clear c43); (try clear c45); (try clear c46); (try clear hcz16_0 hcz16_1 hcz16_2 hcz16_3); (try clear hcz21_0 hcz21_1 hcz21_2 hcz21_3); (try clear hcz22_0 hcz22_1 hcz22_2 hcz22_3); (try clear hcz28_0 hcz28_1 hcz28_2 hcz28_3); (try clear hcz38_0 hcz38_1 hcz38_2 hcz38_3); (try clear hcz40_0 hcz40_1 hcz40_2 hcz40_3); (try clear hcz44_0 hcz44_1 hcz44_2 hcz44_3); (try clear hcz46_0 hcz46_1 hcz46_2 hcz46_3); (try clear hfz16_0 hfz16_1 hfz16_2 hfz16_3); (try clear hfz21_0 hfz21_1 hfz21_2 hfz21_3); (try clear hfz22_0 hfz22_1 hfz22_2 hfz22_3); (try clear hfz28_0 hfz28_1 hfz28_2 hfz28_3); (try clear hfz38_0 hfz38_1 hfz38_2 hfz38_3); (try clear hfz40_0 hfz40_1 hfz40_2 hfz40_3); (try clear hfz44_0 hfz44_1 hfz44_2 hfz44_3); (try clear hfz46_0 hfz46_1 hfz46_2 hfz46_3); (obtain ⟨kq, x92_23, rfl, HA, HJ23, HO_3, HO_7, BK871, BK877, BK883, HB⟩ := hcut)
   cases kq with
   | zero => exact absurd HA.out (by simp [laws_FnTurnedLayouts.j0])
   | succ kj23 =>
    (have H := HA.out); clear HA; (simp only [laws_FnTurnedLayouts.j0] at H); (by_cases c50 : x92_23 = true)
    ·subst c50; (have H1 := H); (rw [if_pos rfl] at H1); clear H; (have H := H1); clear H1; (obtain rfl := Option.some.inj H); go_wp2; go_ret; (exact ⟨er_, bx_⟩)
    ·(replace c50 := Bool.eq_false_iff.mpr c50); subst c50
     have H1 : (if t876 = 0 then ((impl_TurnTile.f kj23 t872 t873 t874 t875 (Int.tmod (wrap64 (4 - t870)) 4)).bind fun bt887 => (if bt887.2.2.2.2 = 0 then (if (!(bt887.1 == t866) || (!(bt887.2.1 == t867) || (!(bt887.2.2.1 == t868) || (!(bt887.2.2.2.1 == t869))))) = true then (some false) else (if t859 = 0 then ((impl_IsCorrectLayout.f kj23 t850 t852 t851 t858).bind fun t893 => (some t893)) else (some true))) else (some false))) else (if t859 = 0 then ((impl_IsCorrectLayout.f kj23 t850 t852 t851 t858).bind fun t894 => (some t894)) else (some true))) = some r := by rw [if_neg (show ¬ (false = true) by decide)] at H; exact H
     clear H; (have H := H1); clear H1; (by_cases c51 : t876 = 0)
     ·(rw [if_pos c51] at H); (have c51b0 : (t876 == 0) = true := beq_iff_eq.mpr c51); (have c51b1 : (t876 != 0) = false := bne_eq_false_iff_eq.mpr c51); clear c51; (replace H := Option.bind_eq_some_iff.mp H); (obtain ⟨⟨t887, t888, t889, t890, t891⟩, A520, H⟩ := H); (try dsimp only at H); (have A52 := A0_ A520); clear A520; (have H0_ := A0_ H); clear H; (have hnb53 := NB877_871.out); (have hnc53 := NB871_877.out); (have hnb54 := NB877_883.out); (have hnc54 := NB883_877.out); (have hcz55_0 : wc.cell? ⟨gb877, 0, none⟩ = some (.int .i64 t872) := (blk_cell BK877.out 0).trans rfl); (have hcz55_1 : wc.cell? ⟨gb877, 1, none⟩ = some (.int .i64 t873) := (blk_cell BK877.out 1).trans rfl); (have hcz55_2 : wc.cell? ⟨gb877, 2, none⟩ = some (.int .i64 t874) := (blk_cell BK877.out 2).trans rfl); (have hcz55_3 : wc.cell? ⟨gb877, 3, none⟩ = some (.int .i64 t875) := (blk_cell BK877.out 3).trans rfl); (have hfz55_0 := blk_frozen BK877.out 0); (have hfz55_1 := blk_frozen BK877.out 1); (have hfz55_2 := blk_frozen BK877.out 2); (have hfz55_3 := blk_frozen BK877.out 3); (go_wp2_with (first | ((with_reducible refine gate_callee (f := 15) rfl ?_); refine gl_ (some 100) Try.func15 #[.agg #[.int .i64 t872, .int .i64 t873, .int .i64 t874, .int .i64 t875], .int .i64 (Int.tmod (wrap64 (4 - t870)) 4)] ?_; (with_reducible refine (impl_TurnTile.calls kj23 t872 t873 t874 t875 (Int.tmod (wrap64 (4 - t870)) 4) t887 t888 t889 t890 t891 _ A52.out).mono ?_); rintro e w56 ⟨rfl, hb⟩; refine ⟨_, rfl, ?_⟩; have n0_ := A0_ (Kd.Q_below (by (with_reducible repeat (first | apply Qa_ | apply Qn_ | apply Qd_)); exact HO_3.out) hb); have n1_ := A0_ (Kd.R_below (by (with_reducible repeat (first | apply Ra_ | apply Rn_ | apply Rd_)); exact HO_7.out) hb); have n2_ := A0_ (blk_below (g := gb871) (o := .cells #[.int .i64 t866, .int .i64 t867, .int .i64 t868, .int .i64 t869] 24 (0, 0)) (bk_ BK871) hb); have n3_ := A0_ (blk_below (g := gb877) (o := .cells #[.int .i64 t872, .int .i64 t873, .int .i64 t874, .int .i64 t875] 24 (0, 0)) (bk_ BK877) hb); have n4_ := A0_ (blk_below (g := gb883) (o := .cells #[.int .i64 t878, .int .i64 t879, .int .i64 t880, .int .i64 t881] 24 (0, 0)) (bk_ BK883) hb); have n5_ := A0_ (below_step bx_ hb); clear HO_3; clear HO_7; clear BK871; clear BK877; clear BK883; clear HB; have HO_3 := n0_; have HO_7 := n1_; have BK871 := n2_; have BK877 := n3_; have BK883 := n4_; have HB := n5_; clear n0_ n1_ n2_ n3_ n4_ n5_; (try clear hb); (try clear hb2); (try clear hk); (try clear hi); refine Stop0.out ?_))); (refine Stop0.mk ?_); (have H := H0_.out); clear H0_; (by_cases c57 : t891 = 0)
      ·(rw [if_pos c57] at H); (have c57b0 : (t891 == 0) = true := beq_iff_eq.mpr c57); (have c57b1 : (t891 != 0) = false := bne_eq_false_iff_eq.mpr c57); clear c57; (by_cases c58 : (!(t887 == t866) || (!(t888 == t867) || (!(t889 == t868) || (!(t890 == t869))))) = true)
       ·(rw [if_pos c58] at H); (have c58b0 : (!(t887 == t866) || (!(t888 == t867) || (!(t889 == t868) || (!(t890 == t869))))) = true := c58); clear c58; (obtain rfl := Option.some.inj H); (go_wp2_with (first | ((with_reducible refine gate_dst (N := 17) rfl ?_); refine be_ (N := 17) (cs := #[.int .i64 0, .int .i64 0, .int .i64 0, .int .i64 0]) (t := 24) ?_; intro gb892 hg w59 hbox hb; have n0_ := A0_ (Kd.Q_below (Kd.Q_elderB (by (with_reducible repeat (first | apply Qa_ | apply Qn_ | apply Qd_)); exact HO_3.out) gb892 (Nat.le_of_eq hg.symm)) hb); have n1_ := A0_ (Kd.R_below (by (with_reducible repeat (first | apply Ra_ | apply Rn_ | apply Rd_)); exact HO_7.out) hb); have n2_ := A0_ (blk_below (g := gb871) (o := .cells #[.int .i64 t866, .int .i64 t867, .int .i64 t868, .int .i64 t869] 24 (0, 0)) (bk_ BK871) hb); have n3_ := A0_ (blk_below (g := gb877) (o := .cells #[.int .i64 t872, .int .i64 t873, .int .i64 t874, .int .i64 t875] 24 (0, 0)) (bk_ BK877) hb); have n4_ := A0_ (blk_below (g := gb883) (o := .cells #[.int .i64 t878, .int .i64 t879, .int .i64 t880, .int .i64 t881] 24 (0, 0)) (bk_ BK883) hb); have n5_ := A0_ (below_step bx_ hb); have n6_ := A0_ (hbox); have n7_ := A0_ ((by rw [hg]; exact (below_size bx_) : w.heap.size ≤ gb892)); have n8_ := A0_ ((by rw [hg]; exact (below_size bx_) : w.heap.size ≤ gb892)); have n9_ := A0_ ((by rw [hg]; exact Nat.ne_of_lt (blk_lt (g := gb871) (o := .cells #[.int .i64 t866, .int .i64 t867, .int .i64 t868, .int .i64 t869] 24 (0, 0)) (bk_ BK871)) : gb871 ≠ gb892)); have n10_ := A0_ ((by rw [hg]; exact Nat.ne_of_gt (blk_lt (g := gb871) (o := .cells #[.int .i64 t866, .int .i64 t867, .int .i64 t868, .int .i64 t869] 24 (0, 0)) (bk_ BK871)) : gb892 ≠ gb871)); have n11_ := A0_ ((by rw [hg]; exact Nat.ne_of_lt (blk_lt (g := gb877) (o := .cells #[.int .i64 t872, .int .i64 t873, .int .i64 t874, .int .i64 t875] 24 (0, 0)) (bk_ BK877)) : gb877 ≠ gb892)); have n12_ := A0_ ((by rw [hg]; exact Nat.ne_of_gt (blk_lt (g := gb877) (o := .cells #[.int .i64 t872, .int .i64 t873, .int .i64 t874, .int .i64 t875] 24 (0, 0)) (bk_ BK877)) : gb892 ≠ gb877)); have n13_ := A0_ ((by rw [hg]; exact Nat.ne_of_lt (blk_lt (g := gb883) (o := .cells #[.int .i64 t878, .int .i64 t879, .int .i64 t880, .int .i64 t881] 24 (0, 0)) (bk_ BK883)) : gb883 ≠ gb892)); have n14_ := A0_ ((by rw [hg]; exact Nat.ne_of_gt (blk_lt (g := gb883) (o := .cells #[.int .i64 t878, .int .i64 t879, .int .i64 t880, .int .i64 t881] 24 (0, 0)) (bk_ BK883)) : gb892 ≠ gb883)); clear HO_3; clear HO_7; clear BK871; clear BK877; clear BK883; clear HB; have HO_3 := n0_; have HO_7 := n1_; have BK871 := n2_; have BK877 := n3_; have BK883 := n4_; have HB := n5_; have BK892 := n6_; have GW892 := n7_; have GE892 := n8_; have NB871_892 := n9_; have NB892_871 := n10_; have NB877_892 := n11_; have NB892_877 := n12_; have NB883_892 := n13_; have NB892_883 := n14_; clear n0_ n1_ n2_ n3_ n4_ n5_ n6_ n7_ n8_ n9_ n10_ n11_ n12_ n13_ n14_; clear hb hbox hg; have hnb60 := NB892_871.out; have hnc60 := NB871_892.out; have hnb61 := NB892_877.out; have hnc61 := NB877_892.out; have hnb62 := NB892_883.out; have hnc62 := NB883_892.out; have hcz63_0 : w59.cell? ⟨gb892, 0, none⟩ = some (.int .i64 0) := (blk_cell BK892.out 0).trans rfl; have hcz63_1 : w59.cell? ⟨gb892, 1, none⟩ = some (.int .i64 0) := (blk_cell BK892.out 1).trans rfl; have hcz63_2 : w59.cell? ⟨gb892, 2, none⟩ = some (.int .i64 0) := (blk_cell BK892.out 2).trans rfl; have hcz63_3 : w59.cell? ⟨gb892, 3, none⟩ = some (.int .i64 0) := (blk_cell BK892.out 3).trans rfl; have hfz63_0 := blk_frozen BK892.out 0; have hfz63_1 := blk_frozen BK892.out 1; have hfz63_2 := blk_frozen BK892.out 2; have hfz63_3 := blk_frozen BK892.out 3; have hnb64 := NB871_877.out; have hnc64 := NB877_871.out; have hnb65 := NB871_883.out; have hnc65 := NB883_871.out; have hcz66_0 : w59.cell? ⟨gb871, 0, none⟩ = some (.int .i64 t866) := (blk_cell BK871.out 0).trans rfl; have hcz66_1 : w59.cell? ⟨gb871, 1, none⟩ = some (.int .i64 t867) := (blk_cell BK871.out 1).trans rfl; have hcz66_2 : w59.cell? ⟨gb871, 2, none⟩ = some (.int .i64 t868) := (blk_cell BK871.out 2).trans rfl; have hcz66_3 : w59.cell? ⟨gb871, 3, none⟩ = some (.int .i64 t869) := (blk_cell BK871.out 3).trans rfl; have hfz66_0 := blk_frozen BK871.out 0; have hfz66_1 := blk_frozen BK871.out 1; have hfz66_2 := blk_frozen BK871.out 2; have hfz66_3 := blk_frozen BK871.out 3))); go_ret; (exact ⟨er_, bx_⟩)
       ·(rw [if_neg c58] at H); (have c58b0 : (!(t887 == t866) || (!(t888 == t867) || (!(t889 == t868) || (!(t890 == t869))))) = false := by simpa using c58); clear c58; (by_cases c67 : t859 = 0)
        ·(rw [if_pos c67] at H); (have c67b0 : (t859 == 0) = true := beq_iff_eq.mpr c67); (have c67b1 : (t859 != 0) = false := bne_eq_false_iff_eq.mpr c67); clear c67; (replace H := Option.bind_eq_some_iff.mp H); (obtain ⟨t893, A680, H⟩ := H); (try dsimp only at H); (have A68 := A0_ A680); clear A680; (have H0_ := A0_ H); clear H
         go_wp2_with (first | ((with_reducible refine gate_dst (N := 17) rfl ?_); refine be_ (N := 17) (cs := #[.int .i64 0, .int .i64 0, .int .i64 0, .int .i64 0]) (t := 24) ?_; intro gb892 hg w69 hbox hb; have n0_ := A0_ (Kd.Q_below (Kd.Q_elderB (by (with_reducible repeat (first | apply Qa_ | apply Qn_ | apply Qd_)); exact HO_3.out) gb892 (Nat.le_of_eq hg.symm)) hb); have n1_ := A0_ (Kd.R_below (by (with_reducible repeat (first | apply Ra_ | apply Rn_ | apply Rd_)); exact HO_7.out) hb); have n2_ := A0_ (blk_below (g := gb871) (o := .cells #[.int .i64 t866, .int .i64 t867, .int .i64 t868, .int .i64 t869] 24 (0, 0)) (bk_ BK871) hb); have n3_ := A0_ (blk_below (g := gb877) (o := .cells #[.int .i64 t872, .int .i64 t873, .int .i64 t874, .int .i64 t875] 24 (0, 0)) (bk_ BK877) hb); have n4_ := A0_ (blk_below (g := gb883) (o := .cells #[.int .i64 t878, .int .i64 t879, .int .i64 t880, .int .i64 t881] 24 (0, 0)) (bk_ BK883) hb); have n5_ := A0_ (below_step bx_ hb); have n6_ := A0_ (hbox); have n7_ := A0_ ((by rw [hg]; exact (below_size bx_) : w.heap.size ≤ gb892)); have n8_ := A0_ ((by rw [hg]; exact (below_size bx_) : w.heap.size ≤ gb892)); have n9_ := A0_ ((by rw [hg]; exact Nat.ne_of_lt (blk_lt (g := gb871) (o := .cells #[.int .i64 t866, .int .i64 t867, .int .i64 t868, .int .i64 t869] 24 (0, 0)) (bk_ BK871)) : gb871 ≠ gb892)); have n10_ := A0_ ((by rw [hg]; exact Nat.ne_of_gt (blk_lt (g := gb871) (o := .cells #[.int .i64 t866, .int .i64 t867, .int .i64 t868, .int .i64 t869] 24 (0, 0)) (bk_ BK871)) : gb892 ≠ gb871)); have n11_ := A0_ ((by rw [hg]; exact Nat.ne_of_lt (blk_lt (g := gb877) (o := .cells #[.int .i64 t872, .int .i64 t873, .int .i64 t874, .int .i64 t875] 24 (0, 0)) (bk_ BK877)) : gb877 ≠ gb892)); have n12_ := A0_ ((by rw [hg]; exact Nat.ne_of_gt (blk_lt (g := gb877) (o := .cells #[.int .i64 t872, .int .i64 t873, .int .i64 t874, .int .i64 t875] 24 (0, 0)) (bk_ BK877)) : gb892 ≠ gb877)); have n13_ := A0_ ((by rw [hg]; exact Nat.ne_of_lt (blk_lt (g := gb883) (o := .cells #[.int .i64 t878, .int .i64 t879, .int .i64 t880, .int .i64 t881] 24 (0, 0)) (bk_ BK883)) : gb883 ≠ gb892)); have n14_ := A0_ ((by rw [hg]; exact Nat.ne_of_gt (blk_lt (g := gb883) (o := .cells #[.int .i64 t878, .int .i64 t879, .int .i64 t880, .int .i64 t881] 24 (0, 0)) (bk_ BK883)) : gb892 ≠ gb883)); clear HO_3; clear HO_7; clear BK871; clear BK877; clear BK883; clear HB; have HO_3 := n0_; have HO_7 := n1_; have BK871 := n2_; have BK877 := n3_; have BK883 := n4_; have HB := n5_; have BK892 := n6_; have GW892 := n7_; have GE892 := n8_; have NB871_892 := n9_; have NB892_871 := n10_; have NB877_892 := n11_; have NB892_877 := n12_; have NB883_892 := n13_; have NB892_883 := n14_; clear n0_ n1_ n2_ n3_ n4_ n5_ n6_ n7_ n8_ n9_ n10_ n11_ n12_ n13_ n14_; clear hb hbox hg; have hnb70 := NB892_871.out; have hnc70 := NB871_892.out; have hnb71 := NB892_877.out; have hnc71 := NB877_892.out; have hnb72 := NB892_883.out; have hnc72 := NB883_892.out; have hcz73_0 : w69.cell? ⟨gb892, 0, none⟩ = some (.int .i64 0) := (blk_cell BK892.out 0).trans rfl; have hcz73_1 : w69.cell? ⟨gb892, 1, none⟩ = some (.int .i64 0) := (blk_cell BK892.out 1).trans rfl; have hcz73_2 : w69.cell? ⟨gb892, 2, none⟩ = some (.int .i64 0) := (blk_cell BK892.out 2).trans rfl; have hcz73_3 : w69.cell? ⟨gb892, 3, none⟩ = some (.int .i64 0) := (blk_cell BK892.out 3).trans rfl; have hfz73_0 := blk_frozen BK892.out 0; have hfz73_1 := blk_frozen BK892.out 1; have hfz73_2 := blk_frozen BK892.out 2; have hfz73_3 := blk_frozen BK892.out 3; have hnb74 := NB871_877.out; have hnc74 := NB877_871.out; have hnb75 := NB871_883.out; have hnc75 := NB883_871.out; have hcz76_0 : w69.cell? ⟨gb871, 0, none⟩ = some (.int .i64 t866) := (blk_cell BK871.out 0).trans rfl; have hcz76_1 : w69.cell? ⟨gb871, 1, none⟩ = some (.int .i64 t867) := (blk_cell BK871.out 1).trans rfl; have hcz76_2 : w69.cell? ⟨gb871, 2, none⟩ = some (.int .i64 t868) := (blk_cell BK871.out 2).trans rfl; have hcz76_3 : w69.cell? ⟨gb871, 3, none⟩ = some (.int .i64 t869) := (blk_cell BK871.out 3).trans rfl; have hfz76_0 := blk_frozen BK871.out 0; have hfz76_1 := blk_frozen BK871.out 1; have hfz76_2 := blk_frozen BK871.out 2; have hfz76_3 := blk_frozen BK871.out 3; obtain ⟨Ao77, co77, eo77⟩ := Kd.R_slice HO_7.out; subst eo77) | (go_at_call 35; (with_reducible refine (impl_IsCorrectLayout.calls kj23 _ _ t850 t852 t851 _ _ t858 t893 _ ?side1 ?side2 ?side3 ?side4 A68.out).mono ?_); (case side1 => refine (Kd.Q_reads' (e := 24) (base := w.heap.size) (ok := fun k_ => ((k_ ≠ gb871 ∧ (k_ ≠ gb877 ∧ k_ ≠ gb883)) ∧ k_ ≠ gb892)) (n := t850.length) (c := co7) ?_).2.2; exact (by (with_reducible repeat (first | apply Qa_ | apply Qn_ | apply Qd_)); exact (Kd.Q_mono (Kd.Q_far (p := ⟨gb892, 3, none⟩) (Kd.Q_far (p := ⟨gb892, 2, none⟩) (Kd.Q_far (p := ⟨gb892, 1, none⟩) (Kd.Q_far (p := ⟨gb892, 0, none⟩) (Kd.Q_mono HO_3.out (fun k_ hk => (⟨hk, hk.2⟩ : _ ∧ k_ ≠ gb892))) (fun _ hk => hk.2) (.int .i64 t887)) (fun _ hk => hk.2) (.int .i64 t888)) (fun _ hk => hk.2) (.int .i64 t889)) (fun _ hk => hk.2) (.int .i64 t890)) (fun _ h_ => h_.1)))); (case side2 => exact (Kd.Q_reads' HO_3.out).2.1); (case side3 => refine (Kd.R_reads' (e := 74) (base := w.heap.size) (ok := fun k_ => True) (n := t858.length) (c := co77) ?_).2.2; exact (by (with_reducible repeat (first | apply Ra_ | apply Rn_ | apply Rd_)); exact (Kd.R_mono (Kd.R_far (p := ⟨gb892, 3, none⟩) (Kd.R_far (p := ⟨gb892, 2, none⟩) (Kd.R_far (p := ⟨gb892, 1, none⟩) (Kd.R_far (p := ⟨gb892, 0, none⟩) (Kd.R_types HO_7.out BK892.out (by decide)) (fun _ hk => hk.2) (.int .i64 t887)) (fun _ hk => hk.2) (.int .i64 t888)) (fun _ hk => hk.2) (.int .i64 t889)) (fun _ hk => hk.2) (.int .i64 t890)) (fun _ h_ => h_.1)))); (case side4 => exact (Kd.R_reads' HO_7.out).2.1); rintro e w78 ⟨rfl, hb⟩; have n0_ := A0_ (Kd.Q_below (by (with_reducible repeat (first | apply Qa_ | apply Qn_ | apply Qd_)); exact (Kd.Q_mono (Kd.Q_far (p := ⟨gb892, 3, none⟩) (Kd.Q_far (p := ⟨gb892, 2, none⟩) (Kd.Q_far (p := ⟨gb892, 1, none⟩) (Kd.Q_far (p := ⟨gb892, 0, none⟩) (Kd.Q_mono HO_3.out (fun k_ hk => (⟨hk, hk.2⟩ : _ ∧ k_ ≠ gb892))) (fun _ hk => hk.2) (.int .i64 t887)) (fun _ hk => hk.2) (.int .i64 t888)) (fun _ hk => hk.2) (.int .i64 t889)) (fun _ hk => hk.2) (.int .i64 t890)) (fun _ h_ => h_.1))) hb); have n1_ := A0_ (Kd.R_below (by (with_reducible repeat (first | apply Ra_ | apply Rn_ | apply Rd_)); exact (Kd.R_mono (Kd.R_far (p := ⟨gb892, 3, none⟩) (Kd.R_far (p := ⟨gb892, 2, none⟩) (Kd.R_far (p := ⟨gb892, 1, none⟩) (Kd.R_far (p := ⟨gb892, 0, none⟩) (Kd.R_types HO_7.out BK892.out (by decide)) (fun _ hk => hk.2) (.int .i64 t887)) (fun _ hk => hk.2) (.int .i64 t888)) (fun _ hk => hk.2) (.int .i64 t889)) (fun _ hk => hk.2) (.int .i64 t890)) (fun _ h_ => h_.1))) hb); have n2_ := A0_ (blk_below (g := gb871) (o := .cells #[.int .i64 t866, .int .i64 t867, .int .i64 t868, .int .i64 t869] 24 (0, 0)) (by (with_reducible repeat (first | apply gn_ | apply gd_ | apply ga_)); refine blk_far ?_ NB871_892.out _; (with_reducible repeat (first | apply gn_ | apply gd_ | apply ga_)); refine blk_far ?_ NB871_892.out _; (with_reducible repeat (first | apply gn_ | apply gd_ | apply ga_)); refine blk_far ?_ NB871_892.out _; (with_reducible repeat (first | apply gn_ | apply gd_ | apply ga_)); refine blk_far ?_ NB871_892.out _; exact bk_ BK871) hb); have n3_ := A0_ (blk_below (g := gb877) (o := .cells #[.int .i64 t872, .int .i64 t873, .int .i64 t874, .int .i64 t875] 24 (0, 0)) (by (with_reducible repeat (first | apply gn_ | apply gd_ | apply ga_)); refine blk_far ?_ NB877_892.out _; (with_reducible repeat (first | apply gn_ | apply gd_ | apply ga_)); refine blk_far ?_ NB877_892.out _; (with_reducible repeat (first | apply gn_ | apply gd_ | apply ga_)); refine blk_far ?_ NB877_892.out _; (with_reducible repeat (first | apply gn_ | apply gd_ | apply ga_)); refine blk_far ?_ NB877_892.out _; exact bk_ BK877) hb); have n4_ := A0_ (blk_below (g := gb883) (o := .cells #[.int .i64 t878, .int .i64 t879, .int .i64 t880, .int .i64 t881] 24 (0, 0)) (by (with_reducible repeat (first | apply gn_ | apply gd_ | apply ga_)); refine blk_far ?_ NB883_892.out _; (with_reducible repeat (first | apply gn_ | apply gd_ | apply ga_)); refine blk_far ?_ NB883_892.out _; (with_reducible repeat (first | apply gn_ | apply gd_ | apply ga_)); refine blk_far ?_ NB883_892.out _; (with_reducible repeat (first | apply gn_ | apply gd_ | apply ga_)); refine blk_far ?_ NB883_892.out _; exact bk_ BK883) hb); have n5_ := A0_ (blk_below (g := gb892) (o := .cells #[.int .i64 t887, .int .i64 t888, .int .i64 t889, .int .i64 t890] 24 (0, 0)) (by (with_reducible repeat (first | apply gn_ | apply gd_ | apply ga_)); refine blk_put (cs := #[.int .i64 t887, .int .i64 t888, .int .i64 t889, .int .i64 0]) ?_ 3 _ rfl; (with_reducible repeat (first | apply gn_ | apply gd_ | apply ga_)); refine blk_put (cs := #[.int .i64 t887, .int .i64 t888, .int .i64 0, .int .i64 0]) ?_ 2 _ rfl; (with_reducible repeat (first | apply gn_ | apply gd_ | apply ga_)); refine blk_put (cs := #[.int .i64 t887, .int .i64 0, .int .i64 0, .int .i64 0]) ?_ 1 _ rfl; (with_reducible repeat (first | apply gn_ | apply gd_ | apply ga_)); refine blk_put (cs := #[.int .i64 0, .int .i64 0, .int .i64 0, .int .i64 0]) ?_ 0 _ rfl; exact bk_ BK892) hb); have n6_ := A0_ (below_step bx_ hb); clear HO_3; clear HO_7; clear BK871; clear BK877; clear BK883; clear BK892; clear HB; have HO_3 := n0_; have HO_7 := n1_; have BK871 := n2_; have BK877 := n3_; have BK883 := n4_; have BK892 := n5_; have HB := n6_; clear n0_ n1_ n2_ n3_ n4_ n5_ n6_; (try clear hb); (try clear hb2); (try clear hk); (try clear hi); refine Stop0.out ?_))
         (refine Stop0.mk ?_); (have H := H0_.out); clear H0_; (obtain rfl := Option.some.inj H); go_wp2; go_ret; (exact ⟨er_, bx_⟩)
        ·(rw [if_neg c67] at H); (have c67b0 : (t859 == 0) = false := beq_eq_false_iff_ne.mpr c67); (have c67b1 : (t859 != 0) = true := bne_iff_ne.mpr c67); (obtain rfl := Option.some.inj H); (go_wp2_with (first | ((with_reducible refine gate_dst (N := 17) rfl ?_); refine be_ (N := 17) (cs := #[.int .i64 0, .int .i64 0, .int .i64 0, .int .i64 0]) (t := 24) ?_; intro gb892 hg w79 hbox hb; have n0_ := A0_ (Kd.Q_below (Kd.Q_elderB (by (with_reducible repeat (first | apply Qa_ | apply Qn_ | apply Qd_)); exact HO_3.out) gb892 (Nat.le_of_eq hg.symm)) hb); have n1_ := A0_ (Kd.R_below (by (with_reducible repeat (first | apply Ra_ | apply Rn_ | apply Rd_)); exact HO_7.out) hb); have n2_ := A0_ (blk_below (g := gb871) (o := .cells #[.int .i64 t866, .int .i64 t867, .int .i64 t868, .int .i64 t869] 24 (0, 0)) (bk_ BK871) hb); have n3_ := A0_ (blk_below (g := gb877) (o := .cells #[.int .i64 t872, .int .i64 t873, .int .i64 t874, .int .i64 t875] 24 (0, 0)) (bk_ BK877) hb); have n4_ := A0_ (blk_below (g := gb883) (o := .cells #[.int .i64 t878, .int .i64 t879, .int .i64 t880, .int .i64 t881] 24 (0, 0)) (bk_ BK883) hb); have n5_ := A0_ (below_step bx_ hb); have n6_ := A0_ (hbox); have n7_ := A0_ ((by rw [hg]; exact (below_size bx_) : w.heap.size ≤ gb892)); have n8_ := A0_ ((by rw [hg]; exact (below_size bx_) : w.heap.size ≤ gb892)); have n9_ := A0_ ((by rw [hg]; exact Nat.ne_of_lt (blk_lt (g := gb871) (o := .cells #[.int .i64 t866, .int .i64 t867, .int .i64 t868, .int .i64 t869] 24 (0, 0)) (bk_ BK871)) : gb871 ≠ gb892)); have n10_ := A0_ ((by rw [hg]; exact Nat.ne_of_gt (blk_lt (g := gb871) (o := .cells #[.int .i64 t866, .int .i64 t867, .int .i64 t868, .int .i64 t869] 24 (0, 0)) (bk_ BK871)) : gb892 ≠ gb871)); have n11_ := A0_ ((by rw [hg]; exact Nat.ne_of_lt (blk_lt (g := gb877) (o := .cells #[.int .i64 t872, .int .i64 t873, .int .i64 t874, .int .i64 t875] 24 (0, 0)) (bk_ BK877)) : gb877 ≠ gb892)); have n12_ := A0_ ((by rw [hg]; exact Nat.ne_of_gt (blk_lt (g := gb877) (o := .cells #[.int .i64 t872, .int .i64 t873, .int .i64 t874, .int .i64 t875] 24 (0, 0)) (bk_ BK877)) : gb892 ≠ gb877)); have n13_ := A0_ ((by rw [hg]; exact Nat.ne_of_lt (blk_lt (g := gb883) (o := .cells #[.int .i64 t878, .int .i64 t879, .int .i64 t880, .int .i64 t881] 24 (0, 0)) (bk_ BK883)) : gb883 ≠ gb892)); have n14_ := A0_ ((by rw [hg]; exact Nat.ne_of_gt (blk_lt (g := gb883) (o := .cells #[.int .i64 t878, .int .i64 t879, .int .i64 t880, .int .i64 t881] 24 (0, 0)) (bk_ BK883)) : gb892 ≠ gb883)); clear HO_3; clear HO_7; clear BK871; clear BK877; clear BK883; clear HB; have HO_3 := n0_; have HO_7 := n1_; have BK871 := n2_; have BK877 := n3_; have BK883 := n4_; have HB := n5_; have BK892 := n6_; have GW892 := n7_; have GE892 := n8_; have NB871_892 := n9_; have NB892_871 := n10_; have NB877_892 := n11_; have NB892_877 := n12_; have NB883_892 := n13_; have NB892_883 := n14_; clear n0_ n1_ n2_ n3_ n4_ n5_ n6_ n7_ n8_ n9_ n10_ n11_ n12_ n13_ n14_; clear hb hbox hg; have hnb80 := NB892_871.out; have hnc80 := NB871_892.out; have hnb81 := NB892_877.out; have hnc81 := NB877_892.out; have hnb82 := NB892_883.out; have hnc82 := NB883_892.out; have hcz83_0 : w79.cell? ⟨gb892, 0, none⟩ = some (.int .i64 0) := (blk_cell BK892.out 0).trans rfl; have hcz83_1 : w79.cell? ⟨gb892, 1, none⟩ = some (.int .i64 0) := (blk_cell BK892.out 1).trans rfl; have hcz83_2 : w79.cell? ⟨gb892, 2, none⟩ = some (.int .i64 0) := (blk_cell BK892.out 2).trans rfl; have hcz83_3 : w79.cell? ⟨gb892, 3, none⟩ = some (.int .i64 0) := (blk_cell BK892.out 3).trans rfl; have hfz83_0 := blk_frozen BK892.out 0; have hfz83_1 := blk_frozen BK892.out 1; have hfz83_2 := blk_frozen BK892.out 2; have hfz83_3 := blk_frozen BK892.out 3; have hnb84 := NB871_877.out; have hnc84 := NB877_871.out; have hnb85 := NB871_883.out; have hnc85 := NB883_871.out; have hcz86_0 : w79.cell? ⟨gb871, 0, none⟩ = some (.int .i64 t866) := (blk_cell BK871.out 0).trans rfl; have hcz86_1 : w79.cell? ⟨gb871, 1, none⟩ = some (.int .i64 t867) := (blk_cell BK871.out 1).trans rfl; have hcz86_2 : w79.cell? ⟨gb871, 2, none⟩ = some (.int .i64 t868) := (blk_cell BK871.out 2).trans rfl; have hcz86_3 : w79.cell? ⟨gb871, 3, none⟩ = some (.int .i64 t869) := (blk_cell BK871.out 3).trans rfl; have hfz86_0 := blk_frozen BK871.out 0; have hfz86_1 := blk_frozen BK871.out 1; have hfz86_2 := blk_frozen BK871.out 2; have hfz86_3 := blk_frozen BK871.out 3))); go_ret; (exact ⟨er_, bx_⟩)
      ·(rw [if_neg c57] at H); (have c57b0 : (t891 == 0) = false := beq_eq_false_iff_ne.mpr c57); (have c57b1 : (t891 != 0) = true := bne_iff_ne.mpr c57); (obtain rfl := Option.some.inj H); (go_wp2_with (first | ((with_reducible refine gate_dst (N := 17) rfl ?_); refine be_ (N := 17) (cs := #[.int .i64 0, .int .i64 0, .int .i64 0, .int .i64 0]) (t := 24) ?_; intro gb892 hg w87 hbox hb; have n0_ := A0_ (Kd.Q_below (Kd.Q_elderB (by (with_reducible repeat (first | apply Qa_ | apply Qn_ | apply Qd_)); exact HO_3.out) gb892 (Nat.le_of_eq hg.symm)) hb); have n1_ := A0_ (Kd.R_below (by (with_reducible repeat (first | apply Ra_ | apply Rn_ | apply Rd_)); exact HO_7.out) hb); have n2_ := A0_ (blk_below (g := gb871) (o := .cells #[.int .i64 t866, .int .i64 t867, .int .i64 t868, .int .i64 t869] 24 (0, 0)) (bk_ BK871) hb); have n3_ := A0_ (blk_below (g := gb877) (o := .cells #[.int .i64 t872, .int .i64 t873, .int .i64 t874, .int .i64 t875] 24 (0, 0)) (bk_ BK877) hb); have n4_ := A0_ (blk_below (g := gb883) (o := .cells #[.int .i64 t878, .int .i64 t879, .int .i64 t880, .int .i64 t881] 24 (0, 0)) (bk_ BK883) hb); have n5_ := A0_ (below_step bx_ hb); have n6_ := A0_ (hbox); have n7_ := A0_ ((by rw [hg]; exact (below_size bx_) : w.heap.size ≤ gb892)); have n8_ := A0_ ((by rw [hg]; exact (below_size bx_) : w.heap.size ≤ gb892)); have n9_ := A0_ ((by rw [hg]; exact Nat.ne_of_lt (blk_lt (g := gb871) (o := .cells #[.int .i64 t866, .int .i64 t867, .int .i64 t868, .int .i64 t869] 24 (0, 0)) (bk_ BK871)) : gb871 ≠ gb892)); have n10_ := A0_ ((by rw [hg]; exact Nat.ne_of_gt (blk_lt (g := gb871) (o := .cells #[.int .i64 t866, .int .i64 t867, .int .i64 t868, .int .i64 t869] 24 (0, 0)) (bk_ BK871)) : gb892 ≠ gb871)); have n11_ := A0_ ((by rw [hg]; exact Nat.ne_of_lt (blk_lt (g := gb877) (o := .cells #[.int .i64 t872, .int .i64 t873, .int .i64 t874, .int .i64 t875] 24 (0, 0)) (bk_ BK877)) : gb877 ≠ gb892)); have n12_ := A0_ ((by rw [hg]; exact Nat.ne_of_gt (blk_lt (g := gb877) (o := .cells #[.int .i64 t872, .int .i64 t873, .int .i64 t874, .int .i64 t875] 24 (0, 0)) (bk_ BK877)) : gb892 ≠ gb877)); have n13_ := A0_ ((by rw [hg]; exact Nat.ne_of_lt (blk_lt (g := gb883) (o := .cells #[.int .i64 t878, .int .i64 t879, .int .i64 t880, .int .i64 t881] 24 (0, 0)) (bk_ BK883)) : gb883 ≠ gb892)); have n14_ := A0_ ((by rw [hg]; exact Nat.ne_of_gt (blk_lt (g := gb883) (o := .cells #[.int .i64 t878, .int .i64 t879, .int .i64 t880, .int .i64 t881] 24 (0, 0)) (bk_ BK883)) : gb892 ≠ gb883)); clear HO_3; clear HO_7; clear BK871; clear BK877; clear BK883; clear HB; have HO_3 := n0_; have HO_7 := n1_; have BK871 := n2_; have BK877 := n3_; have BK883 := n4_; have HB := n5_; have BK892 := n6_; have GW892 := n7_; have GE892 := n8_; have NB871_892 := n9_; have NB892_871 := n10_; have NB877_892 := n11_; have NB892_877 := n12_; have NB883_892 := n13_; have NB892_883 := n14_; clear n0_ n1_ n2_ n3_ n4_ n5_ n6_ n7_ n8_ n9_ n10_ n11_ n12_ n13_ n14_; clear hb hbox hg; have hnb88 := NB892_871.out; have hnc88 := NB871_892.out; have hnb89 := NB892_877.out; have hnc89 := NB877_892.out; have hnb90 := NB892_883.out; have hnc90 := NB883_892.out; have hcz91_0 : w87.cell? ⟨gb892, 0, none⟩ = some (.int .i64 0) := (blk_cell BK892.out 0).trans rfl; have hcz91_1 : w87.cell? ⟨gb892, 1, none⟩ = some (.int .i64 0) := (blk_cell BK892.out 1).trans rfl; have hcz91_2 : w87.cell? ⟨gb892, 2, none⟩ = some (.int .i64 0) := (blk_cell BK892.out 2).trans rfl; have hcz91_3 : w87.cell? ⟨gb892, 3, none⟩ = some (.int .i64 0) := (blk_cell BK892.out 3).trans rfl; have hfz91_0 := blk_frozen BK892.out 0; have hfz91_1 := blk_frozen BK892.out 1; have hfz91_2 := blk_frozen BK892.out 2; have hfz91_3 := blk_frozen BK892.out 3))); go_ret; (exact ⟨er_, bx_⟩)
     ·(rw [if_neg c51] at H); (have c51b0 : (t876 == 0) = false := beq_eq_false_iff_ne.mpr c51); (have c51b1 : (t876 != 0) = true := bne_iff_ne.mpr c51); (by_cases c92 : t859 = 0)
      ·(rw [if_pos c92] at H); (have c92b0 : (t859 == 0) = true := beq_iff_eq.mpr c92); (have c92b1 : (t859 != 0) = false := bne_eq_false_iff_eq.mpr c92); clear c92; (replace H := Option.bind_eq_some_iff.mp H); (obtain ⟨t894, A930, H⟩ := H); (try dsimp only at H); (have A93 := A0_ A930); clear A930; (have H0_ := A0_ H); clear H; (obtain ⟨Ao94, co94, eo94⟩ := Kd.R_slice HO_7.out); subst eo94; (go_wp2_with (first | (go_at_call 35; (with_reducible refine (impl_IsCorrectLayout.calls kj23 _ _ t850 t852 t851 _ _ t858 t894 _ ?side1 ?side2 ?side3 ?side4 A93.out).mono ?_); (case side1 => exact kc_ (Kd.Q_reads' HO_3.out).2.2); (case side2 => exact (Kd.Q_reads' HO_3.out).2.1); (case side3 => exact kc_ (Kd.R_reads' HO_7.out).2.2); (case side4 => exact (Kd.R_reads' HO_7.out).2.1); rintro e w95 ⟨rfl, hb⟩; have n0_ := A0_ (Kd.Q_below (by (with_reducible repeat (first | apply Qa_ | apply Qn_ | apply Qd_)); exact HO_3.out) hb); have n1_ := A0_ (Kd.R_below (by (with_reducible repeat (first | apply Ra_ | apply Rn_ | apply Rd_)); exact HO_7.out) hb); have n2_ := A0_ (blk_below (g := gb871) (o := .cells #[.int .i64 t866, .int .i64 t867, .int .i64 t868, .int .i64 t869] 24 (0, 0)) (bk_ BK871) hb); have n3_ := A0_ (blk_below (g := gb877) (o := .cells #[.int .i64 t872, .int .i64 t873, .int .i64 t874, .int .i64 t875] 24 (0, 0)) (bk_ BK877) hb); have n4_ := A0_ (blk_below (g := gb883) (o := .cells #[.int .i64 t878, .int .i64 t879, .int .i64 t880, .int .i64 t881] 24 (0, 0)) (bk_ BK883) hb); have n5_ := A0_ (below_step bx_ hb); clear HO_3; clear HO_7; clear BK871; clear BK877; clear BK883; clear HB; have HO_3 := n0_; have HO_7 := n1_; have BK871 := n2_; have BK877 := n3_; have BK883 := n4_; have HB := n5_; clear n0_ n1_ n2_ n3_ n4_ n5_; (try clear hb); (try clear hb2); (try clear hk); (try clear hi); refine Stop0.out ?_))); (refine Stop0.mk ?_); (have H := H0_.out); clear H0_; (obtain rfl := Option.some.inj H); go_wp2; go_ret; (exact ⟨er_, bx_⟩)
      ·(rw [if_neg c92] at H); (have c92b0 : (t859 == 0) = false := beq_eq_false_iff_ne.mpr c92); (have c92b1 : (t859 != 0) = true := bne_iff_ne.mpr c92); (obtain rfl := Option.some.inj H); go_wp2; go_ret; (exact ⟨er_, bx_⟩)
end
end Go.Proofs.Ytgcagmmghckbbaa.A
/- Arguments of a law opened as plain data, kind by kind: what can be read at a type is a value of its kind. -/
namespace Go.Proofs.Ytgcagmmghckbbaa.Opn
open Go.RowKit Go.Proofs.YtgcagmmghckbbaaW.PrintWords
def Op {α : Type} (P : Program) (t : TypeId) (d : Kd α) (ok : α → Prop) : Prop :=
 ∀ (H : Type) (enc : TypeId × Value → H) (W : World) (fuel : Nat) (cs : List Value) (x : DataW H × List MemPlace),
  DataW.trod enc P W 0 (fun _ => true) true fuel t cs = some x → ∃ a : α, d.K W a cs ∧ ok a
def OpF {α : Type} (P : Program) (o : Nat) (fs : List Field) (d : Kd α) (ok : α → Prop) : Prop :=
 ∀ (H : Type) (enc : TypeId × Value → H) (W : World) (fuel : Nat) (cs : List Value) (xs : List (DataW H × List MemPlace)), cs.length = o + d.sz →
  xs.length = fs.length → (∀ (i : Nat) (f : Field), fs[i]? = some f → DataW.trod enc P W 0 (fun _ => true) true fuel f.type ((cs.drop f.offset).take (P.cellsOf f.type)) = xs[i]?) → ∃ a : α, d.K W a (cs.drop o) ∧ ok a
def okInt (k : IntKind) (n : Int) : Prop := (Lit.int k n).wf = true
def okAll {α : Type} (ok : α → Prop) (l : List α) : Prop := l.length ≤ maxLen ∧ ∀ x ∈ l, ok x
def okTwo {α β : Type} (ok : α → Prop) (ok' : β → Prop) (x : α × β) : Prop := ok x.1 ∧ ok' x.2
theorem Op.int {P : Program} {t : TypeId} {k : IntKind} (ht : P.underlying t = some (.int k)) : Op P t (Kd.int k) (okInt k) := by
 intro H enc W fuel cs x h
 obtain ⟨n, rfl, _, hw⟩ := DataW.trod_int ht h
 exact ⟨n, rfl, hw⟩
theorem Op.bool {P : Program} {t : TypeId} (ht : P.underlying t = some .bool) : Op P t Kd.bool (fun _ => True) := by
 intro H enc W fuel cs x h
 obtain ⟨b, rfl, _⟩ := DataW.trod_bool ht h
 exact ⟨b, rfl, trivial⟩
theorem Op.iso {α β : Type} {P : Program} {t : TypeId} {d : Kd α} {ok : α → Prop} (h : Op P t d ok) (f : β → α) (g : α → β) (hfg : ∀ a, f (g a) = a) : Op P t (Kd.iso d f) (fun b => ok (f b)) := by
 intro H enc W fuel cs x hx
 obtain ⟨a, ha, hok⟩ := h H enc W fuel cs x hx
 refine ⟨g a, ?_, ?_⟩
 ·show d.K W (f (g a)) cs
  rw [hfg]
  exact ha
 ·show ok (f (g a))
  rw [hfg]
  exact hok
theorem list_of_lt {α : Type} {p : Nat → α → Prop} : ∀ n, (∀ i, i < n → ∃ a, p i a) → ∃ l : List α, l.length = n ∧ ∀ i a, l[i]? = some a → p i a
 | 0, _ => ⟨[], rfl, fun i a h => by simp at h⟩
 | n + 1, h => by
  obtain ⟨l, hl, hp⟩ := list_of_lt n (fun i hi => h i (by omega))
  obtain ⟨a, ha⟩ := h n (by omega)
  refine ⟨l ++ [a], by simp [hl], fun i b hb => ?_⟩
  by_cases hi : i < l.length
  ·rw [List.getElem?_append_left hi] at hb
   exact hp i b hb
  ·have hlt : i < (l ++ [a]).length := (List.getElem?_eq_some_iff.1 hb).1
   simp at hlt
   have : i = l.length := by omega
   subst this
   have hab : a = b := by simpa using hb
   subst hab
   rw [hl]
   exact ha
theorem Op.slice {α : Type} {P : Program} {t e : TypeId} {d : Kd α} {ok : α → Prop} (ht : P.underlying t = some (.slice e)) (hc : P.cellsOf e = d.sz) (h : Op P e d ok) :
  Op P t (Kd.slice e d) (okAll ok) := by
 intro H enc W fuel cs x hx
 rcases Deep.open_slice ht hx with ⟨rfl, _⟩ | ⟨a, len, cap, m, n, D, Pl, rfl, hb, hl, hm, hmm, _, hel⟩
 ·exact ⟨[], ⟨none, 0, rfl, Nat.le_refl _, rfl, by simp, fun h => absurd h (by simp)⟩, by simp [okAll]⟩
 ·rw [if_pos rfl] at hmm
  subst hmm
  obtain ⟨l, hlen, hl2⟩ := list_of_lt (p := fun i (y : α) => (∃ c, c.length = d.sz ∧ d.K W y c ∧ ∀ j u, c[j]? = some u → W.cell? (a.add (i * d.sz + j)) = some u) ∧ ok y) len (fun i hi => by
   obtain ⟨cs', h1, h2⟩ := hel i (by omega)
   obtain ⟨y, hy, hok⟩ := h H enc W n cs' _ h2
   obtain ⟨_, h3, h4⟩ := World.cells?_some h1
   refine ⟨y, ⟨cs', d.K_len hy, hy, fun j u hu => ?_⟩, hok⟩
   have hj : j < P.cellsOf e := by rw [← h3]; exact (List.getElem?_eq_some_iff.1 hu).1
   have h5 := h4 j hj
   rw [← hu, ← h5, hc, Addr.add_add])
  unfold maxLen at hm
  refine ⟨l, ⟨some a, m, by rw [hlen], by omega, rfl, by omega, fun _ => ⟨a, rfl, fun j p hj => (hl2 j p hj).1⟩⟩, by unfold maxLen; omega, fun y hy => ?_⟩
  obtain ⟨i, hi, rfl⟩ := List.getElem_of_mem hy
  exact (hl2 i _ (List.getElem?_eq_getElem hi)).2
theorem OpF.one {α : Type} {P : Program} {o : Nat} {f : Field} {d : Kd α} {ok : α → Prop} (ho : f.offset = o) (hc : P.cellsOf f.type = d.sz) (h : Op P f.type d ok) : OpF P o [f] d ok := by
 intro H enc W fuel cs xs hl hn hx
 match xs, hn with
 | [y], _ =>
 have hy := hx 0 f rfl
 simp only [List.getElem?_cons_zero] at hy
 rw [ho, hc, List.take_of_length_le (by simp; omega)] at hy
 exact h H enc W fuel _ _ hy
theorem OpF.cons {α β : Type} {P : Program} {o : Nat} {f : Field} {fs : List Field} {d : Kd α} {d' : Kd β} {ok : α → Prop} {ok' : β → Prop} (ho : f.offset = o) (hc : P.cellsOf f.type = d.sz) (h : Op P f.type d ok)
  (hr : OpF P (o + d.sz) fs d' ok') : OpF P o (f :: fs) (Kd.pair d d') (okTwo ok ok') := by
 intro H enc W fuel cs xs hl hn hx
 match xs, hn with
 | y :: ys, hn =>
 have hy := hx 0 f rfl
 have hys : ∀ (i : Nat) (f : Field), fs[i]? = some f → DataW.trod enc P W 0 (fun _ => true) true fuel f.type ((cs.drop f.offset).take (P.cellsOf f.type)) = ys[i]? := fun i g hg => by simpa using hx (i + 1) g (by simpa using hg)
 simp only [List.getElem?_cons_zero] at hy
 rw [ho, hc] at hy
 obtain ⟨a, ha, hok⟩ := h H enc W fuel _ _ hy
 obtain ⟨b, hb, hok'⟩ := hr H enc W fuel cs ys (by rw [hl]; show o + (d.sz + d'.sz) = _; omega) (by simpa using hn) hys
 refine ⟨(a, b), ⟨_, _, ?_, ha, hb⟩, hok, hok'⟩
 rw [← List.drop_drop, List.take_append_drop]
theorem Op.struct {α : Type} {P : Program} {t : TypeId} {fs : Array Field} {d : Kd α} {ok : α → Prop} (ht : P.underlying t = some (.struct fs)) (hc : P.cellsOf t = d.sz) (h : OpF P 0 fs.toList d ok) : Op P t d ok := by
 intro H enc W fuel cs x hx
 obtain ⟨xs, n, _, _, hl, hn, hxs⟩ := DataW.trod_struct ht hx
 obtain ⟨a, ha, hok⟩ := h H enc W n cs xs (by omega) (by simpa using hn) (fun i f hf => hxs i f (by simpa using hf))
 exact ⟨a, by simpa using ha, hok⟩
end Go.Proofs.Ytgcagmmghckbbaa.Opn

namespace Go.Proofs.Ytgcagmmghckbbaa.A
open Go.RowKit Go.Proofs.YtgcagmmghckbbaaW.PrintWords Go.Proofs.YtgcagmmghckbbaaW.PrintLast Go.Proofs.YtgcagmmghckbbaaW.PrintMore
set_option linter.unusedVariables false
set_option linter.unusedSimpArgs false
theorem op5 : Go.Proofs.Ytgcagmmghckbbaa.Opn.Op Try.prog 5 (Kd.int .u8) (Go.Proofs.Ytgcagmmghckbbaa.Opn.okInt .u8) := Go.Proofs.Ytgcagmmghckbbaa.Opn.Op.int Try.underlying5
theorem op44 : Go.Proofs.Ytgcagmmghckbbaa.Opn.Op Try.prog 44 (Kd.slice 5 (Kd.int .u8)) (Go.Proofs.Ytgcagmmghckbbaa.Opn.okAll (Go.Proofs.Ytgcagmmghckbbaa.Opn.okInt .u8)) := Go.Proofs.Ytgcagmmghckbbaa.Opn.Op.slice Try.underlying44 (by kernel_rfl) op5
def FnTurnedLayouts.Pure : Prop := ∀ (a0 : List (Int)), (Go.Proofs.Ytgcagmmghckbbaa.Opn.okAll (Go.Proofs.Ytgcagmmghckbbaa.Opn.okInt .u8)) a0 → ∃ k, laws_FnTurnedLayouts.f k a0 = some true
def pT (tiles : List Tl) (s : St) : Tl := turnT (tileAt tiles s.f0) s.f1
theorem corr_snoc (tiles : List Tl) (w h : Int) (s : St) : ∀ (l : List St) (pl : List Tl) (seen : List Int),
  corr tiles w h pl seen (l ++ [s]) = (corr tiles w h pl seen l && (inB s.f0 0 ((tiles.length : Int) - 1) && (inB s.f1 0 3 && (!((seen ++ l.map (·.f0)).contains s.f0) && fitsV (pl ++ l.map (pT tiles)) (pT tiles s) w h))))
 | [], pl, seen => by simp [corr, pT]
 | x :: r, pl, seen => by
  rw [List.cons_append, corr, corr_snoc tiles w h s r]
  rw [corr]
  simp only [List.map_cons, List.append_assoc, List.cons_append, List.nil_append, Bool.and_assoc]
  rfl
def Good (tiles : List Tl) (w h : Int) (l : List St) : Prop := corr tiles w h [] [] l = true
def AllGood (tiles : List Tl) (w h : Int) (s : VS) : Prop := ∀ l ∈ s.found, l.length = tiles.length ∧ Good tiles w h l
theorem turnsV_good (tiles : List Tl) (w h most : Int) (visit : List St → List Tl → VS → VS) (layout : List St) (i : Nat) (hi : i < tiles.length) (hu : usedV layout i = false) (hg : Good tiles w h layout)
  (hv : ∀ (x : St) (s : VS), Good tiles w h (layout ++ [x]) → AllGood tiles w h s → AllGood tiles w h (visit (layout ++ [x]) (layout.map (pT tiles) ++ [pT tiles x]) s)) :
  ∀ (m : Nat) (s : VS), m ≤ 4 → AllGood tiles w h s → AllGood tiles w h (turnsV tiles w h most visit layout (layout.map (pT tiles)) i m s)
 | 0, s, _, hs => hs
 | m + 1, s, hm, hs => by
  unfold turnsV
  split
  ·exact hs
  ·refine turnsV_good tiles w h most visit layout i hi hu hg hv m _ (by omega) ?_
   split
   ·rename_i hc
    simp only [Bool.and_eq_true] at hc
    refine hv ⟨i, (4 - (m + 1) : Nat)⟩ s ?_ hs
    unfold Good at *
    rw [corr_snoc, hg]
    simp only [Bool.true_and, List.nil_append, Bool.and_eq_true, inB_iff]
    refine ⟨by omega, by omega, ?_, hc.2⟩
    unfold usedV at hu
    have e : ((layout.map (·.f0)).contains ((i : Nat) : Int)) = layout.any fun x => x.f0 == (i : Int) := by
     clear hg hv hc hu
     induction layout with
     | nil => rfl
     | cons a l ih =>
      rw [List.map_cons, List.contains_cons, ih, List.any_cons]
      congr 1
      exact BEq.comm
    rw [e, hu]
    rfl
   ·exact hs
theorem tilesV_good (tiles : List Tl) (w h most : Int) (visit : List St → List Tl → VS → VS) (layout : List St) (hg : Good tiles w h layout)
  (hv : ∀ (x : St) (s : VS), Good tiles w h (layout ++ [x]) → AllGood tiles w h s → AllGood tiles w h (visit (layout ++ [x]) (layout.map (pT tiles) ++ [pT tiles x]) s)) :
  ∀ (m : Nat) (s : VS), m ≤ tiles.length → AllGood tiles w h s → AllGood tiles w h (tilesV tiles w h most visit layout (layout.map (pT tiles)) m s)
 | 0, s, _, hs => hs
 | m + 1, s, hm, hs => by
  unfold tilesV
  refine tilesV_good tiles w h most visit layout hg hv m _ (by omega) ?_
  split
  ·exact hs
  ·rename_i hu
   exact turnsV_good tiles w h most visit layout _ (by omega) (by simpa using hu) hg hv 4 s (by omega) hs
theorem visitV_good (tiles : List Tl) (w h most : Int) : ∀ (d : Nat) (layout : List St) (s : VS), layout.length + d = tiles.length → Good tiles w h layout → AllGood tiles w h s → AllGood tiles w h (visitV tiles w h most d layout (layout.map (pT tiles)) s)
 | d, layout, s, hl, hg, hs => by
  unfold visitV
  split
  ·exact hs
  ·cases d with
   | zero =>
    intro l hm
    simp only [List.mem_append, List.mem_singleton] at hm
    rcases hm with hm | rfl
    ·exact hs l hm
    ·exact ⟨by omega, hg⟩
   | succ d =>
    refine tilesV_good tiles w h most _ layout hg (fun x s hx hs => ?_) _ _ (Nat.le_refl _) hs
    have := visitV_good tiles w h most d (layout ++ [x]) s (by simp; omega) hx hs
    simpa using this
theorem search_good (tiles : List Tl) (w h most : Int) : AllGood tiles w h (visitV tiles w h most tiles.length [] [] ⟨0, [], false⟩) := by
 have := visitV_good tiles w h most tiles.length [] ⟨0, [], false⟩ (by simp) rfl (fun l hl => by simp at hl)
 simpa using this
end Go.Proofs.Ytgcagmmghckbbaa.A



namespace Go.Proofs.Ytgcagmmghckbbaa.A
open Go.RowKit Go.Proofs.YtgcagmmghckbbaaW.PrintWords Go.Proofs.YtgcagmmghckbbaaW.PrintLast Go.Proofs.YtgcagmmghckbbaaW.PrintMore
set_option linter.unusedVariables false
set_option linter.unusedSimpArgs false
def tIdx (w h : Int) (i : Nat) : Int := (i : Int) % w * h + h - 1 - (i : Int) / w
def turnS (s : St) : St := ⟨s.f0, (s.f1 + 1) % 4⟩
def turnFrom (w h : Int) (l : List St) : List St → Nat → List St
 | out, 0 => out
 | out, n + 1 => turnFrom w h l (out.set (tIdx w h (l.length - (n + 1))).toNat (turnS (setAt l ((l.length - (n + 1) : Nat) : Int)))) n
theorem tIdx_bound (w h : Int) (n i : Nat) (hw : 1 ≤ w) (hw6 : w ≤ 6) (hh : 1 ≤ h) (hh6 : h ≤ 6) (hn : w * h = n) (hi : i < n) : 0 ≤ (i : Int) % w ∧ (i : Int) % w < w ∧ 0 ≤ (i : Int) / w ∧ (i : Int) / w < h ∧ 0 ≤ tIdx w h i ∧ tIdx w h i < n := by
 have c0 := Int.emod_nonneg (i : Int) (show w ≠ 0 by omega)
 have c1 := Int.emod_lt_of_pos (i : Int) (show 0 < w by omega)
 have r0 := Int.ediv_nonneg (show 0 ≤ (i : Int) by omega) (show 0 ≤ w by omega)
 have r1 : (i : Int) / w < h := Int.ediv_lt_of_lt_mul (by omega) (by rw [Int.mul_comm, hn]; omega)
 have m1 : (i : Int) % w * h ≤ (w - 1) * h := Int.mul_le_mul_of_nonneg_right (by omega) (by omega)
 have m0 : 0 ≤ (i : Int) % w * h := Int.mul_nonneg c0 (by omega)
 rw [Int.sub_mul, hn] at m1
 refine ⟨c0, c1, r0, r1, ?_, ?_⟩
 ·unfold tIdx; omega
 ·unfold tIdx; omega
theorem tIdx_walk (w h : Int) (n i : Nat) (hw : 1 ≤ w) (hw6 : w ≤ 6) (hh : 1 ≤ h) (hh6 : h ≤ 6) (hn : w * h = n) (hn12 : n ≤ 12) (hi : i < n) :
  wrap64 (wrap64 (wrap64 (wrap64 (Int.tmod i w * h) + h) - 1) - wrap64 (Int.tdiv i w)) = tIdx w h i := by
 obtain ⟨c0, c1, r0, r1, t0, t1⟩ := tIdx_bound w h n i hw hw6 hh hh6 hn hi
 have m0 : 0 ≤ (i : Int) % w * h := Int.mul_nonneg c0 (by omega)
 have m1 : (i : Int) % w * h ≤ 5 * 6 := Int.mul_le_mul (by omega) hh6 (by omega) (by omega)
 rw [Int.tmod_eq_emod_of_nonneg (by omega), Int.tdiv_eq_ediv_of_nonneg (by omega), wrap_id (x := (i : Int) % w * h) (by omega) (by omega), wrap_id (x := (i : Int) / w) (by omega) (by omega)]
 unfold tIdx at *
 rw [wrap_id (x := (i : Int) % w * h + h) (by omega) (by omega), wrap_id (x := (i : Int) % w * h + h - 1) (by omega) (by omega), wrap_id (by omega) (by omega)]
theorem turnFrom_step (w h : Int) (l out : List St) (j : Nat) (hj : j < l.length) : turnFrom w h l out (l.length - j) = turnFrom w h l (out.set (tIdx w h j).toNat (turnS (setAt l (j : Int)))) (l.length - (j + 1)) := by
 obtain ⟨m, hm⟩ : ∃ m, l.length - j = m + 1 := ⟨l.length - j - 1, by omega⟩
 rw [hm, show l.length - (j + 1) = m from by omega]
 show turnFrom w h l (out.set (tIdx w h (l.length - (m + 1))).toNat (turnS (setAt l ((l.length - (m + 1) : Nat) : Int)))) m = _
 rw [show l.length - (m + 1) = j from by omega]
def smallTurns (l : List St) : Prop := ∀ j (h : j < l.length), 0 ≤ l[j].f1 ∧ l[j].f1 ≤ 3
theorem turnS_walk (s : St) (h : 0 ≤ s.f1 ∧ s.f1 ≤ 3) : (⟨s.f0, Int.tmod (wrap64 (s.f1 + 1)) 4⟩ : St) = turnS s := by
 unfold turnS
 rw [wrap_id (by omega) (by omega), Int.tmod_eq_emod_of_nonneg (by omega)]
theorem corr_turns (tiles : List Tl) (w h : Int) : ∀ (l : List St) (pl : List Tl) (seen : List Int), corr tiles w h pl seen l = true → smallTurns l
 | [], _, _, _ => fun j h => by simp at h
 | s :: r, pl, seen, hc => by
  unfold corr at hc
  simp only [Bool.and_eq_true, inB_iff] at hc
  intro j hj
  cases j with
  | zero => exact hc.2.1
  | succ j => exact corr_turns tiles w h r _ _ hc.2.2.2.2 j (by simpa using hj)
theorem specTurn_ev (w h : Int) (l : List St) (hw : 1 ≤ w) (hw6 : w ≤ 6) (hh : 1 ≤ h) (hh6 : h ≤ 6) (hn : w * h = l.length) (hn12 : l.length ≤ 12) (ht : smallTurns l) (out : List St) (ho : out.length = l.length) :
  Ev (fun k => spec_TurnLayout.l0 k w h l out 0) (turnFrom w h l out l.length, 0) := by
 have := ev_inv0 l.length (fun (s : List St) j => s.length = l.length ∧ turnFrom w h l out l.length = turnFrom w h l s (l.length - j)) (fun r => r = (turnFrom w h l out l.length, 0)) (fun s i k => spec_TurnLayout.l0 k w h l s i) (fun s hi => ?_) (fun s j hj hi => .inr ?_) out ⟨ho, by simp⟩
 ·obtain ⟨r, rfl, hr⟩ := this
  exact hr
 ·rw [Nat.sub_self] at hi
  refine ⟨_, rfl, Ev.step (f := fun _ => some (s, 0)) (fun k => by simp only [spec_TurnLayout.l0]; rw [if_neg (by omega)]) ?_⟩
  rw [hi.2]
  exact Ev.now _
 ·obtain ⟨_, _, _, _, t0, t1⟩ := tIdx_bound w h l.length j hw hw6 hh hh6 hn hj
  refine ⟨s.set (tIdx w h j).toNat (turnS (setAt l (j : Int))), ⟨by simp [hi.1], by rw [hi.2, turnFrom_step w h l s j hj]⟩, fun r h2 => Ev.step (fun k => ?_) h2⟩
  simp only [spec_TurnLayout.l0, tIdx_walk w h l.length j hw hw6 hh hh6 hn hn12 hj]
  rw [if_pos (by omega), if_neg (by omega), if_pos (by omega), if_pos t0, if_pos (by omega), wrap_succ j (by omega), turnS_walk]
  ·rfl
  ·rw [setAt_nat l j hj]; exact ht j hj
theorem implTurn_ev (w h : Int) (l : List St) (hw : 1 ≤ w) (hw6 : w ≤ 6) (hh : 1 ≤ h) (hh6 : h ≤ 6) (hn : w * h = l.length) (hn12 : l.length ≤ 12) (ht : smallTurns l) (out : List St) (ho : out.length = l.length) :
  Ev (fun k => impl_TurnLayout.l0 k w h out l l.length 0) (turnFrom w h l out l.length, 0) := by
 have := ev_inv0 l.length (fun (s : List St) j => s.length = l.length ∧ turnFrom w h l out l.length = turnFrom w h l s (l.length - j)) (fun r => r = (turnFrom w h l out l.length, 0)) (fun s i k => impl_TurnLayout.l0 k w h s l l.length i) (fun s hi => ?_) (fun s j hj hi => .inr ?_) out ⟨ho, by simp⟩
 ·obtain ⟨r, rfl, hr⟩ := this
  exact hr
 ·rw [Nat.sub_self] at hi
  refine ⟨_, rfl, Ev.step (f := fun _ => some (s, 0)) (fun k => by simp only [impl_TurnLayout.l0]; rw [if_neg (by omega)]) ?_⟩
  rw [hi.2]
  exact Ev.now _
 ·obtain ⟨_, _, _, _, t0, t1⟩ := tIdx_bound w h l.length j hw hw6 hh hh6 hn hj
  refine ⟨s.set (tIdx w h j).toNat (turnS (setAt l (j : Int))), ⟨by simp [hi.1], by rw [hi.2, turnFrom_step w h l s j hj]⟩, fun r h2 => Ev.step (fun k => ?_) h2⟩
  simp only [impl_TurnLayout.l0, tIdx_walk w h l.length j hw hw6 hh hh6 hn hn12 hj]
  rw [if_pos (by omega), if_pos (by omega), if_pos (by omega), if_neg (by omega), if_pos t0, if_pos (by omega), wrap_succ j (by omega), turnS_walk]
  ·rfl
  ·rw [setAt_nat l j hj]; exact ht j hj
def turnOut (tiles : List Tl) (w h : Int) (l : List St) : List St × Int :=
 if codeV tiles w h = 0 then if layV tiles w h l = true then (turnFrom w h l (List.replicate l.length z74) l.length, 0) else ([], 5) else ([], codeV tiles w h)
theorem layV_true {tiles : List Tl} {w h : Int} {l : List St} (hv : layV tiles w h l = true) : codeV tiles w h = 0 ∧ l.length = tiles.length ∧ corr tiles w h [] [] l = true := by
 unfold layV at hv
 simpa using hv
theorem specTurnLayout_ev (tiles : List Tl) (w h : Int) (l : List St) (hn : tiles.length ≤ 1048576) (hl : l.length ≤ 1048576) : Ev (fun k => spec_TurnLayout.f k tiles w h l) (turnOut tiles w h l) := by
 unfold spec_TurnLayout.f turnOut
 refine Ev.bind (l30Code_ev tiles w h hn) ?_
 by_cases c : codeV tiles w h = 0
 ·simp only [c, if_true]
  refine Ev.bind (specIsCorrect_ev tiles w h l hn hl) (Ev.succ ?_)
  cases hv : layV tiles w h l
  ·simp only [spec_TurnLayout.j0, Bool.not_false, if_true]
   exact Ev.step (f := fun _ => some ([], 5)) (fun k => by simp [spec_TurnLayout.j1]) (Ev.now _)
  ·obtain ⟨_, e, hc⟩ := layV_true hv
   obtain ⟨ho, hw1, hw6, hh1, hh6, hwh, hn12⟩ := codeV_zero c
   simp only [spec_TurnLayout.j0, Bool.not_true, Bool.false_eq_true, if_false, if_true]
   refine Ev.succ ?_
   simp only [spec_TurnLayout.j1, if_true, Int.toNat_natCast, show (0 : Int) ≤ (l.length : Int) from by omega, show l.length ≤ 17592186044416 from by omega]
   exact specTurn_ev w h l hw1 hw6 hh1 hh6 (by rw [hwh, e]) (by omega) (corr_turns _ _ _ _ _ _ hc) _ (by simp)
 ·simp only [c, if_false]
  refine Ev.succ ?_
  simp only [spec_TurnLayout.j0, Bool.false_eq_true, if_false]
  refine Ev.succ ?_
  simp only [spec_TurnLayout.j1, c, if_false]
  exact Ev.now _
theorem implTurnLayout_ev (tiles : List Tl) (w h : Int) (l : List St) (hl : l.length ≤ 1048576) : Ev (fun k => impl_TurnLayout.f k tiles w h l) (turnOut tiles w h l) := by
 unfold impl_TurnLayout.f turnOut
 refine Ev.bind (jigsawCode_ev tiles w h) ?_
 by_cases c : codeV tiles w h = 0
 ·simp only [c, if_true]
  refine Ev.bind (isCorrect_ev tiles w h l c hl) ?_
  have e : layV tiles w h l = (decide (l.length = tiles.length) && corr tiles w h [] [] l) := by unfold layV; simp [c]
  rw [← e]
  cases hv : layV tiles w h l
  ·exact Ev.now _
  ·obtain ⟨_, e, hc⟩ := layV_true hv
   obtain ⟨ho, hw1, hw6, hh1, hh6, hwh, hn12⟩ := codeV_zero c
   simp only [if_true, Int.toNat_natCast, show (0 : Int) ≤ (l.length : Int) from by omega, show l.length ≤ 17592186044416 from by omega]
   exact implTurn_ev w h l hw1 hw6 hh1 hh6 (by rw [hwh, e]) (by omega) (corr_turns _ _ _ _ _ _ hc) _ (by simp)
 ·simp only [c, if_false]
  exact Ev.now _
theorem turnFrom_len (w h : Int) (l : List St) : ∀ (n : Nat) (out : List St), (turnFrom w h l out n).length = out.length
 | 0, _ => rfl
 | n + 1, out => by
  show (turnFrom w h l _ n).length = _
  rw [turnFrom_len w h l n]
  simp
theorem turnOut_len (tiles : List Tl) (w h : Int) (l : List St) (hl : l.length ≤ 1048576) : (turnOut tiles w h l).1.length ≤ 1048576 := by
 unfold turnOut
 split
 ·split
  ·simp only [turnFrom_len]; simpa using hl
  ·simp
 ·simp
theorem rc_eq (w m : Nat) : m = m / w * w + m % w := by have := Nat.div_add_mod m w; rw [Nat.mul_comm] at this; omega
theorem rc_of (w a b : Nat) (hb : b < w) : (a * w + b) % w = b ∧ (a * w + b) / w = a := by
 refine ⟨by rw [Nat.mul_comm, Nat.mul_add_mod, Nat.mod_eq_of_lt hb], ?_⟩
 rw [Nat.mul_comm, Nat.mul_add_div (by omega), Nat.div_eq_of_lt hb, Nat.add_zero]
theorem in_grid (w h m : Nat) (hm : m < w * h) : 0 < w ∧ 0 < h ∧ m % w < w ∧ m / w < h := by
 have hw : 0 < w := by
  rcases Nat.eq_zero_or_pos w with rfl | h0
  ·rw [Nat.zero_mul] at hm; omega
  ·exact h0
 have hh : 0 < h := by
  rcases Nat.eq_zero_or_pos h with rfl | h0
  ·rw [Nat.mul_zero] at hm; omega
  ·exact h0
 exact ⟨hw, hh, Nat.mod_lt _ hw, Nat.div_lt_of_lt_mul hm⟩
theorem grid_lt (w h r c : Nat) (hr : r < h) (hc : c < w) : r * w + c < w * h := by
 have : (r + 1) * w ≤ h * w := Nat.mul_le_mul_right w hr
 rw [Nat.add_mul] at this
 rw [Nat.mul_comm w h]
 omega
def Grid (w h : Nat) (g : Nat → Tl) : Prop := ∀ j, j < w * h →
 ((g j).f1 = 0 ↔ j % w = w - 1) ∧ ((g j).f2 = 0 ↔ j / w = h - 1) ∧ (if j % w = 0 then (g j).f3 = 0 else (g j).f3 ≠ 0 ∧ (g j).f3 + (g (j - 1)).f1 = 0) ∧
  (if j / w = 0 then (g j).f0 = 0 else (g j).f0 ≠ 0 ∧ (g j).f0 + (g (j - w)).f2 = 0)
def rotT (t : Tl) : Tl := ⟨t.f3, t.f0, t.f1, t.f2⟩
def old (w h p : Nat) : Nat := (h - 1 - p % h) * w + p / h
theorem old_rc (w h p : Nat) (hp : p < w * h) : p % h < h ∧ p / h < w ∧ old w h p % w = p / h ∧ old w h p / w = h - 1 - p % h ∧ old w h p < w * h := by
 obtain ⟨hh, hw, h1, h2⟩ := in_grid h w p (by rw [Nat.mul_comm]; exact hp)
 obtain ⟨a, b⟩ := rc_of w (h - 1 - p % h) (p / h) h2
 exact ⟨h1, h2, a, b, grid_lt w h _ _ (by omega) h2⟩
theorem grid_turn {w h : Nat} {g : Nat → Tl} (hg : Grid w h g) : Grid h w (fun p => rotT (g (old w h p))) := by
 intro p hp
 rw [Nat.mul_comm] at hp
 obtain ⟨p1, p2, o1, o2, o3⟩ := old_rc w h p hp
 obtain ⟨g1, g2, g3, g4⟩ := hg _ o3
 rw [o1] at g1 g3
 rw [o2] at g2 g4
 have ep := rc_eq h p
 refine ⟨?_, ?_, ?_, ?_⟩
 ·show (g (old w h p)).f0 = 0 ↔ _
  by_cases c : h - 1 - p % h = 0
  ·rw [if_pos c] at g4
   exact ⟨fun _ => by omega, fun _ => g4⟩
  ·rw [if_neg c] at g4
   exact ⟨fun e => absurd e g4.1, fun e => by omega⟩
 ·exact g1
 ·show if p % h = 0 then (g (old w h p)).f2 = 0 else (g (old w h p)).f2 ≠ 0 ∧ (g (old w h p)).f2 + (g (old w h (p - 1))).f0 = 0
  by_cases c : p % h = 0
  ·rw [if_pos c]
   exact g2.2 (by omega)
  ·rw [if_neg c]
   have e1 : p - 1 = p / h * h + (p % h - 1) := by omega
   obtain ⟨q1, q2⟩ := rc_of h (p / h) (p % h - 1) (by omega)
   have eo : old w h (p - 1) = old w h p + w := by
    unfold old
    rw [e1, q1, q2, show h - 1 - (p % h - 1) = (h - 1 - p % h) + 1 from by omega, Nat.add_mul]
    omega
   have hlt : old w h (p - 1) < w * h := (old_rc w h (p - 1) (by omega)).2.2.2.2
   have g5 := (hg _ hlt).2.2.2
   rw [eo] at g5 ⊢
   rw [if_neg (by rw [Nat.add_div_right _ (by omega)]; exact Nat.succ_ne_zero _), Nat.add_sub_cancel] at g5
   refine ⟨fun e => ?_, by omega⟩
   have := g2.1 e
   omega
 ·show if p / h = 0 then (g (old w h p)).f3 = 0 else (g (old w h p)).f3 ≠ 0 ∧ (g (old w h p)).f3 + (g (old w h (p - h))).f1 = 0
  by_cases c : p / h = 0
  ·rw [if_pos c] at g3 ⊢
   exact g3
  ·rw [if_neg c] at g3 ⊢
   have e1 : p - h = (p / h - 1) * h + p % h := by have := Nat.le_mul_of_pos_left h (show 0 < p / h by omega); rw [Nat.sub_mul, Nat.one_mul]; omega
   obtain ⟨q1, q2⟩ := rc_of h (p / h - 1) (p % h) p1
   have eo : old w h (p - h) = old w h p - 1 := by
    unfold old
    rw [e1, q1, q2]
    omega
   rw [eo]
   exact g3
theorem old_inj (w h p q : Nat) (hp : p < w * h) (hq : q < w * h) (e : old w h p = old w h q) : p = q := by
 obtain ⟨p1, p2, o1, o2, o3⟩ := old_rc w h p hp
 obtain ⟨q1, q2, r1, r2, r3⟩ := old_rc w h q hq
 have a : p / h = q / h := by rw [← o1, ← r1, e]
 have b : p % h = q % h := by rw [e] at o2; omega
 rw [rc_eq h p, rc_eq h q, a, b]
theorem corr_iff (tiles : List Tl) (w h : Int) : ∀ (l : List St) (pl : List Tl) (seen : List Int), corr tiles w h pl seen l = true ↔
  ∀ j (hj : j < l.length), (0 ≤ l[j].f0 ∧ l[j].f0 ≤ (tiles.length : Int) - 1) ∧ (0 ≤ l[j].f1 ∧ l[j].f1 ≤ 3) ∧ (seen ++ (l.take j).map (·.f0)).contains l[j].f0 = false ∧ fitsV (pl ++ (l.take j).map (pT tiles)) (pT tiles l[j]) w h = true
 | [], pl, seen => by simp [corr]
 | x :: r, pl, seen => by
  have ih := corr_iff tiles w h r (pl ++ [pT tiles x]) (seen ++ [x.f0])
  rw [corr]
  simp only [Bool.and_eq_true, inB_iff]
  constructor
  ·rintro ⟨h1, h2, h3, h4, h5⟩ j hj
   cases j with
   | zero => exact ⟨h1, h2, by simpa using h3, by simpa [pT] using h4⟩
   | succ j =>
    have := (ih.1 h5) j (by simpa using hj)
    simpa [List.append_assoc] using this
  ·intro hall
   have h0 := hall 0 (by simp)
   refine ⟨h0.1, h0.2.1, by simpa using h0.2.2.1, by simpa [pT] using h0.2.2.2, ih.2 fun j hj => ?_⟩
   have := hall (j + 1) (by simpa using hj)
   simpa [List.append_assoc] using this
theorem matchS_iff (x y : Int) (hx : okE x = true) (hy : okE y = true) : matchS x y = true ↔ x ≠ 0 ∧ x + y = 0 := by
 rw [okE_iff] at hx hy
 unfold matchS
 rw [show wrap64 (x + y) = x + y from by unfold wrap64; omega]
 by_cases c : x = 0
 ·simp [c]
 ·rw [if_neg c]; simp [c]
theorem okT_parts {t : Tl} (h : okT t = true) : okE t.f0 = true ∧ okE t.f1 = true ∧ okE t.f2 = true ∧ okE t.f3 = true := by
 unfold okT at h
 simpa using h
theorem sideV_iff (z : Nat) (x y : Int) (hx : okE x = true) (hy : z ≠ 0 → okE y = true) : sideV matchS (z : Int) x y = true ↔ if z = 0 then x = 0 else x ≠ 0 ∧ x + y = 0 := by
 unfold sideV
 by_cases c : z = 0
 ·subst c; simp
 ·rw [if_neg (by omega), if_neg c, matchS_iff x y hx (hy c)]
theorem beq_ne (a b : Bool) : (a != b) = false ↔ (a = true ↔ b = true) := by cases a <;> cases b <;> simp
theorem fitsV_iff (pl : List Tl) (t : Tl) (w h : Nat) (hw : 0 < w) (hh : 0 < h) (ht : okT t = true) (a b : Tl) (ha : pl.length % w ≠ 0 → lastT pl ((pl.length : Int) - 1) = a ∧ okT a = true) (hb : pl.length / w ≠ 0 → lastT pl ((pl.length : Int) - (w : Int)) = b ∧ okT b = true) :
  fitsV pl t (w : Int) (h : Int) = true ↔ (t.f1 = 0 ↔ pl.length % w = w - 1) ∧ (t.f2 = 0 ↔ pl.length / w = h - 1) ∧ (if pl.length % w = 0 then t.f3 = 0 else t.f3 ≠ 0 ∧ t.f3 + a.f1 = 0) ∧ (if pl.length / w = 0 then t.f0 = 0 else t.f0 ≠ 0 ∧ t.f0 + b.f2 = 0) := by
 obtain ⟨k0, k1, k2, k3⟩ := okT_parts ht
 have em : ((pl.length : Int) % (w : Int)) = ((pl.length % w : Nat) : Int) := by simp
 have ed : ((pl.length : Int) / (w : Int)) = ((pl.length / w : Nat) : Int) := by simp
 unfold fitsV
 rw [em, ed]
 simp only [Bool.and_eq_true, Bool.not_eq_true', Bool.or_eq_false_iff, beq_ne, beq_iff_eq]
 have s1 : sideV matchS ((pl.length % w : Nat) : Int) t.f3 (lastT pl ((pl.length : Int) - 1)).f1 = true ↔ (if pl.length % w = 0 then t.f3 = 0 else t.f3 ≠ 0 ∧ t.f3 + a.f1 = 0) := by
  rw [sideV_iff _ _ _ k3 (fun c => by rw [(ha c).1]; exact (okT_parts (ha c).2).2.1)]
  by_cases c : pl.length % w = 0
  ·rw [if_pos c, if_pos c]
  ·rw [if_neg c, if_neg c, (ha c).1]
 have s2 : sideV matchS ((pl.length / w : Nat) : Int) t.f0 (lastT pl ((pl.length : Int) - (w : Int))).f2 = true ↔ (if pl.length / w = 0 then t.f0 = 0 else t.f0 ≠ 0 ∧ t.f0 + b.f2 = 0) := by
  rw [sideV_iff _ _ _ k0 (fun c => by rw [(hb c).1]; exact (okT_parts (hb c).2).2.2.1)]
  by_cases c : pl.length / w = 0
  ·rw [if_pos c, if_pos c]
  ·rw [if_neg c, if_neg c, (hb c).1]
 rw [s1, s2, and_assoc]
 have e1 : ((pl.length % w : Nat) : Int) = (w : Int) - 1 ↔ pl.length % w = w - 1 := by omega
 have e2 : ((pl.length / w : Nat) : Int) = (h : Int) - 1 ↔ pl.length / w = h - 1 := by
  obtain ⟨z, hz⟩ : ∃ z, z = pl.length / w := ⟨_, rfl⟩
  rw [← hz]
  omega
 rw [e1, e2]
def gOf (tiles : List Tl) (l : List St) (j : Nat) : Tl := pT tiles (setAt l (j : Int))
theorem setAt_get (l : List St) (j : Nat) (h : j < l.length) : setAt l (j : Int) = l[j] := setAt_nat l j h
theorem lastT_take (tiles : List Tl) (l : List St) (j i : Nat) (hi : i < j) (hj : j ≤ l.length) : lastT ((l.take j).map (pT tiles)) (i : Int) = gOf tiles l i := by
 unfold lastT gOf rd_T24
 rw [setAt_get l i (by omega), getD_nat _ _ _ (by simp; omega)]
 simp
structure Uses (tiles : List Tl) (l : List St) : Prop where
 tile : ∀ j (hj : j < l.length), 0 ≤ l[j].f0 ∧ l[j].f0 ≤ (tiles.length : Int) - 1
 turn : ∀ j (hj : j < l.length), 0 ≤ l[j].f1 ∧ l[j].f1 ≤ 3
 once : ∀ i j (hi : i < l.length) (hj : j < l.length), i < j → l[i].f0 ≠ l[j].f0
theorem gOf_ok {tiles : List Tl} {l : List St} (ho : tiles.all okT = true) (hu : Uses tiles l) (j : Nat) (hj : j < l.length) : okT (gOf tiles l j) = true := by
 unfold gOf pT
 rw [setAt_get l j hj]
 exact turnT_ok _ _ (tileAt_ok tiles _ ho (hu.tile j hj).1 (by have := (hu.tile j hj).2; omega))
theorem fitsAt_iff {tiles : List Tl} {l : List St} {w h : Nat} (hw : 0 < w) (hh : 0 < h) (ho : tiles.all okT = true) (hu : Uses tiles l) (j : Nat) (hj : j < l.length) :
  fitsV ((l.take j).map (pT tiles)) (pT tiles l[j]) (w : Int) (h : Int) = true ↔ ((gOf tiles l j).f1 = 0 ↔ j % w = w - 1) ∧ ((gOf tiles l j).f2 = 0 ↔ j / w = h - 1) ∧ (if j % w = 0 then (gOf tiles l j).f3 = 0 else (gOf tiles l j).f3 ≠ 0 ∧ (gOf tiles l j).f3 + (gOf tiles l (j - 1)).f1 = 0) ∧
   (if j / w = 0 then (gOf tiles l j).f0 = 0 else (gOf tiles l j).f0 ≠ 0 ∧ (gOf tiles l j).f0 + (gOf tiles l (j - w)).f2 = 0) := by
 have hlen : ((l.take j).map (pT tiles)).length = j := by simp; omega
 have e : pT tiles l[j] = gOf tiles l j := by unfold gOf; rw [setAt_get l j hj]
 have key := fitsV_iff ((l.take j).map (pT tiles)) (gOf tiles l j) w h hw hh (gOf_ok ho hu j hj) (gOf tiles l (j - 1)) (gOf tiles l (j - w))
 rw [hlen] at key
 rw [e]
 refine key (fun c => ?_) (fun c => ?_)
 ·have : 0 < j := by
   rcases Nat.eq_zero_or_pos j with rfl | h0
   ·simp at c
   ·exact h0
  refine ⟨?_, gOf_ok ho hu _ (by omega)⟩
  rw [show (j : Int) - 1 = ((j - 1 : Nat) : Int) from by omega]
  exact lastT_take tiles l j (j - 1) (by omega) (by omega)
 ·have : w ≤ j := by
   rcases Nat.lt_or_ge j w with h0 | h0
   ·rw [Nat.div_eq_of_lt h0] at c; exact absurd rfl c
   ·exact h0
  refine ⟨?_, gOf_ok ho hu _ (by omega)⟩
  rw [show (j : Int) - (w : Int) = ((j - w : Nat) : Int) from by omega]
  exact lastT_take tiles l j (j - w) (by omega) (by omega)
theorem once_iff (l : List St) (j : Nat) (hj : j < l.length) : ((l.take j).map (·.f0)).contains l[j].f0 = false ↔ ∀ i (hi : i < j), (l[i]'(by omega)).f0 ≠ l[j].f0 := by
 rw [Bool.eq_false_iff]
 simp only [ne_eq, List.contains_iff_mem, List.mem_map, List.mem_take_iff_getElem, not_exists, not_and]
 constructor
 ·intro h i hi e
  exact h l[i] ⟨i, by omega, rfl⟩ e
 ·rintro h x ⟨i, hi, rfl⟩ e
  exact h i (by omega) e
theorem corr_grid {tiles : List Tl} {l : List St} {w h : Nat} (hw : 0 < w) (hh : 0 < h) (ho : tiles.all okT = true) (hl : l.length = w * h) :
  corr tiles (w : Int) (h : Int) [] [] l = true ↔ Uses tiles l ∧ Grid w h (gOf tiles l) := by
 rw [corr_iff]
 simp only [List.nil_append]
 constructor
 ·intro hall
  have hu : Uses tiles l := ⟨fun j hj => (hall j hj).1, fun j hj => (hall j hj).2.1, fun i j hi hj hij => (once_iff l j hj).1 (hall j hj).2.2.1 i hij⟩
  exact ⟨hu, fun j hj => (fitsAt_iff hw hh ho hu j (by omega)).1 (hall j (by omega)).2.2.2⟩
 ·rintro ⟨hu, hg⟩ j hj
  exact ⟨hu.tile j hj, hu.turn j hj, (once_iff l j hj).2 fun i hi => hu.once i j (by omega) hj hi, (fitsAt_iff hw hh ho hu j hj).2 (hg j (by omega))⟩
theorem old_idx (w h i p : Nat) (hi : i < w * h) (hp : p < w * h) : tIdx (w : Int) (h : Int) i = (p : Int) ↔ i = old w h p := by
 obtain ⟨p1, p2, o1, o2, o3⟩ := old_rc w h p hp
 obtain ⟨hw, hh, c1, r1⟩ := in_grid w h i hi
 have ei := rc_eq w i
 have ep := rc_eq h p
 have et : tIdx (w : Int) (h : Int) i = ((i % w * h + (h - 1 - i / w) : Nat) : Int) := by
  unfold tIdx
  rw [show ((i : Int) % (w : Int)) = ((i % w : Nat) : Int) from by simp, show ((i : Int) / (w : Int)) = ((i / w : Nat) : Int) from by simp, ← Int.natCast_mul]
  obtain ⟨z, hz⟩ : ∃ z, z = i / w := ⟨_, rfl⟩
  rw [← hz] at r1 ⊢
  obtain ⟨y, hy⟩ : ∃ y, y = i % w * h := ⟨_, rfl⟩
  rw [← hy]
  omega
 rw [et]
 obtain ⟨a, b⟩ := rc_of h (i % w) (h - 1 - i / w) (Nat.lt_of_le_of_lt (Nat.sub_le _ _) (by omega))
 constructor
 ·intro e
  have e' : p = i % w * h + (h - 1 - i / w) := by omega
  unfold old
  rw [e', a, b]
  have : h - 1 - (h - 1 - i / w) = i / w := by
   obtain ⟨z, hz⟩ : ∃ z, z = i / w := ⟨_, rfl⟩
   rw [← hz] at r1 ⊢
   omega
  rw [this]
  exact ei
 ·intro e
  rw [e, o1, o2]
  have : h - 1 - (h - 1 - p % h) = p % h := by omega
  rw [this, ← ep]
theorem turnFrom_at (w h : Nat) (hw6 : w ≤ 6) (hh6 : h ≤ 6) (l : List St) (hl : l.length = w * h) (p : Nat) (hp : p < w * h) : ∀ (m : Nat) (out : List St), m ≤ l.length → out.length = l.length →
  setAt (turnFrom (w : Int) (h : Int) l out m) (p : Int) = if l.length - m ≤ old w h p then turnS (setAt l ((old w h p : Nat) : Int)) else setAt out (p : Int)
 | 0, out, _, ho => by
  have := (old_rc w h p hp).2.2.2.2
  rw [if_neg (by omega)]
  rfl
 | m + 1, out, hm, ho => by
  unfold turnFrom
  rw [turnFrom_at w h hw6 hh6 l hl p hp m _ (by omega) (by simpa using ho)]
  have hi : l.length - (m + 1) < w * h := by omega
  have hx := old_idx w h (l.length - (m + 1)) p hi hp
  by_cases c : l.length - m ≤ old w h p
  ·rw [if_pos c, if_pos (by omega)]
  ·rw [if_neg c]
   rw [setAt_get _ p (by simp; omega)]
   by_cases d : l.length - (m + 1) = old w h p
   ·rw [if_pos (by omega), ← d]
    have e := hx.2 d
    have : (tIdx (w : Int) (h : Int) (l.length - (m + 1))).toNat = p := by rw [e]; rfl
    simp only [this, List.getElem_set_self]
   ·rw [if_neg (by omega)]
    have e : (tIdx (w : Int) (h : Int) (l.length - (m + 1))).toNat ≠ p := by
     intro e
     obtain ⟨_, _, _, _, t0, t1⟩ := tIdx_bound (w : Int) (h : Int) l.length (l.length - (m + 1)) (by have := (in_grid w h p hp).1; omega) (by omega) (by have := (in_grid w h p hp).2.1; omega) (by omega) (by rw [hl]; simp) (by omega)
     exact d (hx.1 (by omega))
    rw [List.getElem_set_ne e, setAt_get out p (by omega)]
theorem turn_rot (t : Tl) (n : Int) (h0 : 0 ≤ n) (h1 : n ≤ 3) : turnT t ((n + 1) % 4) = rotT (turnT t n) := by
 have : n = 0 ∨ n = 1 ∨ n = 2 ∨ n = 3 := by omega
 rcases this with rfl | rfl | rfl | rfl <;> simp [turnT, rotT]
theorem lay_turned {tiles : List Tl} {l : List St} {w h : Int} (hv : layV tiles w h l = true) : layV tiles h w (turnFrom w h l (List.replicate l.length z74) l.length) = true := by
 unfold layV at hv ⊢
 simp only [Bool.and_eq_true, decide_eq_true_eq] at hv ⊢
 obtain ⟨hc, hl, hg⟩ := hv
 obtain ⟨ho, hw1, hw6, hh1, hh6, hwh, hn⟩ := codeV_zero hc
 have hc' : codeV tiles h w = 0 := by
  have e1 : inB h 1 6 = true := (inB_iff _ _ _).2 ⟨hh1, hh6⟩
  have e2 : inB w 1 6 = true := (inB_iff _ _ _).2 ⟨hw1, hw6⟩
  unfold codeV
  rw [if_pos ho, if_pos]
  rw [e1, e2, Int.mul_comm, decide_eq_true hwh, decide_eq_true hn]
  rfl
 refine ⟨hc', by rw [turnFrom_len]; simpa using hl, ?_⟩
 obtain ⟨a, rfl⟩ := Int.eq_ofNat_of_zero_le (show 0 ≤ w by omega)
 obtain ⟨b, rfl⟩ := Int.eq_ofNat_of_zero_le (show 0 ≤ h by omega)
 have hn' : tiles.length = a * b := by rw [← Int.natCast_mul] at hwh; omega
 have ha : 0 < a := by omega
 have hb : 0 < b := by omega
 have hlab : l.length = a * b := hl.trans hn'
 obtain ⟨hu, hgr⟩ := (corr_grid ha hb ho hlab).1 hg
 obtain ⟨L, hL⟩ : ∃ L, L = turnFrom (a : Int) (b : Int) l (List.replicate l.length z74) l.length := ⟨_, rfl⟩
 have hLl : L.length = a * b := by rw [hL, turnFrom_len]; simpa using hlab
 have at_ : ∀ p (hp : p < L.length), ∃ ho : old a b p < l.length, L[p] = turnS l[old a b p] := by
  intro p hp
  have hp' : p < a * b := by omega
  have o3 := (old_rc a b p hp').2.2.2.2
  have := turnFrom_at a b (by omega) (by omega) l hlab p hp' l.length (List.replicate l.length z74) (Nat.le_refl _) (by simp)
  rw [if_pos (by omega), ← hL, setAt_get L p hp, setAt_get l _ (by omega)] at this
  exact ⟨by omega, this⟩
 rw [← hL]
 refine (corr_grid hb ha ho (by rw [hLl, Nat.mul_comm])).2 ⟨⟨fun j hj => ?_, fun j hj => ?_, fun i j hi hj hij => ?_⟩, ?_⟩
 ·obtain ⟨h1, h2⟩ := at_ j hj
  rw [h2]
  exact hu.tile _ h1
 ·obtain ⟨h1, h2⟩ := at_ j hj
  rw [h2]
  show 0 ≤ (l[old a b j].f1 + 1) % 4 ∧ (l[old a b j].f1 + 1) % 4 ≤ 3
  omega
 ·obtain ⟨h1, h2⟩ := at_ i hi
  obtain ⟨h3, h4⟩ := at_ j hj
  rw [h2, h4]
  show l[old a b i].f0 ≠ l[old a b j].f0
  have hne : old a b i ≠ old a b j := fun e => by
   have := old_inj a b i j (by omega) (by omega) e
   omega
  rcases Nat.lt_or_gt_of_ne hne with d | d
  ·exact hu.once _ _ h1 h3 d
  ·exact fun e => hu.once _ _ h3 h1 d e.symm
 ·have hrot := grid_turn hgr
  have key : ∀ j, j < a * b → gOf tiles L j = rotT (gOf tiles l (old a b j)) := by
   intro j hj
   obtain ⟨h1, h2⟩ := at_ j (by omega)
   unfold gOf
   rw [setAt_get L j (by omega), setAt_get l _ h1, h2]
   have ht := hu.turn _ h1
   exact turn_rot _ _ ht.1 ht.2
  intro j hj
  have hj' : j < a * b := by rw [Nat.mul_comm]; exact hj
  have := hrot j hj
  simp only [← key j hj', ← key (j - 1) (by omega), ← key (j - b) (by omega)] at this
  exact this
theorem likeSets_ev (l : List St) (h : l.length ≤ 1048576) : Ev (fun k => laws_likeSets.f k l l) true := by
 unfold laws_likeSets.f
 simp only [if_true]
 refine ev_at l.length (fun (_ : Unit) _ => True) true (fun _ i k => laws_likeSets.l0 k l l i) (fun s hi => ?_) (fun s j hj hi => ?_) () trivial
 ·exact Ev.step (f := fun _ => some true) (fun k => by simp only [laws_likeSets.l0]; rw [if_neg (by omega)]) (Ev.now _)
 ·refine ⟨(), trivial, fun h2 => Ev.step (fun k => ?_) h2⟩
  simp only [laws_likeSets.l0]
  rw [if_pos (by omega), if_pos (by omega), if_pos (by omega), if_neg (by simp), wrap_succ j (by omega)]
def CodeOk (c : List Int) : Prop := c.length ≤ 140737488351232 ∧ ∀ x ∈ c, 0 ≤ x ∧ x ≤ 255
def SrcOk (c : List Int) (p s : Int) : Prop := 0 ≤ p ∧ p ≤ c.length ∧ 0 ≤ s ∧ s < 2147483647
theorem codeOk_of {l : List Int} (h : l.length * 1 ≤ 140737488351232) (hw : ∀ x ∈ l, (Lit.int .u8 x).wf = true) : CodeOk l := by
 refine ⟨by omega, fun x hx => ?_⟩
 have := hw x hx
 simp [Lit.wf, IntKind.min, IntKind.max, IntKind.bits, IntKind.signed] at this
 omega
theorem rd_ok {c : List Int} (h : CodeOk c) {j : Int} (h0 : 0 ≤ j) (h1 : j < c.length) : 0 ≤ rd c j ∧ rd c j ≤ 255 := by
 obtain ⟨m, rfl⟩ := Int.eq_ofNat_of_zero_le h0
 have hm : m < c.length := by omega
 rw [rd_nat c m hm]
 exact h.2 _ (List.getElem_mem hm)
theorem tmod_range {x n : Int} (hx : 0 ≤ x) (hn : 0 < n) : 0 ≤ Int.tmod x n ∧ Int.tmod x n < n := by
 rw [Int.tmod_eq_emod_of_nonneg hx]
 exact ⟨Int.emod_nonneg _ (by omega), Int.emod_lt_of_pos _ hn⟩
theorem tdiv31 {x : Int} (hx : 0 ≤ x) : 0 ≤ Int.tdiv x 31 ∧ Int.tdiv x 31 ≤ x := by
 rw [Int.tdiv_eq_ediv_of_nonneg hx]
 omega
theorem next_ok {c : List Int} (hc : CodeOk c) {p s : Int} (h : SrcOk c p s) (n : Int) :
  ∃ r p' s', spec_l01Next.f c p s n = some (r, p', s') ∧ 0 ≤ r ∧ (n ≤ 1 → r = 0) ∧ (1 < n → r < n) ∧ SrcOk c p' s' := by
 obtain ⟨h0, h1, h2, h3⟩ := h
 have hl := hc.1
 unfold spec_l01Next.f
 by_cases d : n ≤ 1
 ·rw [if_pos d]
  exact ⟨_, _, _, rfl, Int.le_refl _, fun _ => rfl, fun h => absurd h (by omega), h0, h1, h2, h3⟩
 ·rw [if_neg d]
  have e1 : wrap64 (wrap64 (s * 48271) + 29) = s * 48271 + 29 := by unfold wrap64; omega
  rw [e1]
  obtain ⟨s', hs⟩ : ∃ s', s' = Int.tmod (s * 48271 + 29) 2147483647 := ⟨_, rfl⟩
  have hsr := tmod_range (x := s * 48271 + 29) (n := 2147483647) (by omega) (by omega)
  rw [← hs] at hsr ⊢
  have ht := tdiv31 hsr.1
  have hn0 : ¬ n = 0 := by omega
  by_cases q : p < c.length
  ·rw [if_pos q, if_pos h0]
   have ep : wrap64 (p + 1) = p + 1 := by unfold wrap64; omega
   have ep2 : wrap64 (p + 1 - 1) = p := by unfold wrap64; omega
   have hr := rd_ok hc h0 q
   have er : wrap64 (rd c p) = rd c p := by unfold wrap64; omega
   have ed : wrap64 (Int.tdiv s' 31) = Int.tdiv s' 31 := by unfold wrap64; omega
   have es : wrap64 (Int.tdiv s' 31 + rd c p) = Int.tdiv s' 31 + rd c p := by unfold wrap64; omega
   have hS : SrcOk c (p + 1) s' := ⟨by omega, by omega, hsr.1, hsr.2⟩
   have A := tmod_range (x := rd c p) (n := n) hr.1 (by omega)
   have B := tmod_range (x := Int.tdiv s' 31 + rd c p) (n := n) (by omega) (by omega)
   by_cases d2 : n ≤ 256
   ·rw [if_pos d2]
    rw [ep, ep2]
    by_cases d3 : Int.tmod (p + 1) 2 = 0
    ·simp only [if_pos d3, if_pos h0, if_pos q, if_neg hn0, er]
     exact ⟨_, _, _, rfl, A.1, fun h => absurd h d, fun _ => A.2, hS⟩
    ·simp only [if_neg d3, if_neg hn0, er, ed, es]
     exact ⟨_, _, _, rfl, B.1, fun h => absurd h d, fun _ => B.2, hS⟩
   ·simp only [if_neg d2, ep, if_neg hn0, er, ed, es]
    exact ⟨_, _, _, rfl, B.1, fun h => absurd h d, fun _ => B.2, hS⟩
  ·rw [if_neg q, if_neg hn0]
   have ed : wrap64 (Int.tdiv s' 31) = Int.tdiv s' 31 := by unfold wrap64; omega
   rw [ed]
   have A := tmod_range (x := Int.tdiv s' 31) (n := n) ht.1 (by omega)
   exact ⟨_, _, _, rfl, A.1, fun h => absurd h d, fun _ => A.2, h0, h1, hsr.1, hsr.2⟩
theorem from_ok {c : List Int} (hc : CodeOk c) : ∃ p s, SrcOk c p s ∧ Ev (fun k => spec_l01From.f k c) (c, p, s) := by
 have hl := hc.1
 unfold spec_l01From.f
 have key : ∃ r, (∃ p s, SrcOk c p s ∧ r = (c, p, s)) ∧ Ev (fun k => spec_l01From.l0 k c 0 c 0 61003) r := by
  refine ev_inv0 (min c.length 64) (fun (s : Int) _ => 0 ≤ s ∧ s < 2147483647) (fun r => ∃ p s, SrcOk c p s ∧ r = (c, p, s)) (fun s i k => spec_l01From.l0 k c i c 0 s) (fun s hi => ?_) (fun s j hj hi => .inr ?_) 61003 ⟨by omega, by omega⟩
  ·refine ⟨(c, 0, s), ⟨0, s, ⟨Int.le_refl _, by omega, hi.1, hi.2⟩, rfl⟩, Ev.step (f := fun _ => some (c, 0, s)) (fun k => ?_) (Ev.now _)⟩
   simp only [spec_l01From.l0]
   by_cases q : ((min c.length 64 : Nat) : Int) < (c.length : Int)
   ·rw [if_pos q, if_neg (by omega)]
   ·rw [if_neg q]
  ·have hjl : j < c.length := by omega
   have hr := rd_ok hc (j := (j : Int)) (by omega) (by omega)
   have er : wrap64 (rd c (j : Int)) = rd c (j : Int) := by unfold wrap64; omega
   have e : wrap64 (wrap64 (s * 47) + rd c (j : Int)) = s * 47 + rd c (j : Int) := by have := hi.1; have := hi.2; unfold wrap64; omega
   have hs := tmod_range (x := s * 47 + rd c (j : Int)) (n := 2147483647) (by have := hi.1; omega) (by omega)
   refine ⟨Int.tmod (s * 47 + rd c (j : Int)) 2147483647, hs, fun r h2 => Ev.step (fun k => ?_) h2⟩
   simp only [spec_l01From.l0]
   rw [if_pos (by omega), if_pos (by omega), if_pos (by omega), wrap_succ j (by omega), er, e]
 obtain ⟨r, ⟨p, s, h, rfl⟩, hr⟩ := key
 exact ⟨p, s, h, hr⟩
def DrawOk (c : List Int) (r : List Tl × Int × Int × Int × Int) : Prop := r.1.length ≤ 12 ∧ 1 ≤ r.2.1 ∧ r.2.1 ≤ 5 ∧ 1 ≤ r.2.2.1 ∧ r.2.2.1 ≤ 4 ∧ SrcOk c r.2.2.2.1 r.2.2.2.2
theorem l30Draw_l1 {c : List Int} (hc : CodeOk c) (w h : Int) (hw : 1 ≤ w) (hw4 : w ≤ 4) (hh : 1 ≤ h) (hh4 : h ≤ 4) (tiles : List Tl) (hN : tiles.length ≤ 12) (hN1 : 1 ≤ tiles.length) (p s : Int) (hS : SrcOk c p s) :
  ∃ r, DrawOk c r ∧ Ev (fun k => spec_l30Draw.l1 k w h tiles [] 0 c p s) r := by
 refine ev_inv0 tiles.length (fun (z : List Tl × Int × Int) j => z.1.length = j ∧ SrcOk c z.2.1 z.2.2) (DrawOk c) (fun z i k => spec_l30Draw.l1 k w h tiles z.1 i c z.2.1 z.2.2) (fun z hi => ?_) (fun z j hj hi => .inr ?_) ([], p, s) ⟨rfl, hS⟩
 ·obtain ⟨hl, hs⟩ := hi
  obtain ⟨i, p1, s1, e1, i0, iz, i1, hs1⟩ := next_ok hc hs (z.1.length : Int)
  obtain ⟨q, p2, s2, e2, q0, _, q1, hs2⟩ := next_ok hc hs1 16
  have hil : i < (z.1.length : Int) := by
   by_cases d : 1 < (z.1.length : Int)
   ·exact i1 d
   ·have := iz (by omega); omega
  have st : ∀ k, spec_l30Draw.l1 (k + 1) w h tiles z.1 (tiles.length : Int) c z.2.1 z.2.2 = _ := fun k => by
   simp only [spec_l30Draw.l1]
   rw [if_neg (by omega), e1, Option.bind_some, e2, Option.bind_some]
  have fin : ∀ r, DrawOk c r → (∀ k, spec_l30Draw.l1 (k + 1) w h tiles z.1 (tiles.length : Int) c z.2.1 z.2.2 = some r) → ∃ r, DrawOk c r ∧ Ev (fun k => spec_l30Draw.l1 k w h tiles z.1 (tiles.length : Int) c z.2.1 z.2.2) r := fun r hr h => ⟨r, hr, Ev.step (f := fun _ => some r) h (Ev.now _)⟩
  simp only [st] at fin
  by_cases c0 : q = 0
  ·obtain ⟨x, p3, s3, e3, x0, _, x1, hs3⟩ := next_ok hc hs2 3
   refine fin (z.1.set i.toNat ⟨rd [-10, 9, 10] x, (rd_T24 z.1 i).f1, (rd_T24 z.1 i).f2, (rd_T24 z.1 i).f3⟩, w, h, p3, s3) ⟨by simp only [List.length_set]; omega, hw, by simp only; omega, hh, hh4, hs3⟩ fun k => ?_
   rw [if_pos c0, Option.bind_some, e3, Option.bind_some, if_pos x0, if_pos (by simpa using x1 (by omega)), if_pos i0, if_pos hil]
  ·simp only [if_neg c0] at fin
   by_cases c1 : q = 1
   ·refine fin (z.1.drop 1, w, h, p2, s2) ⟨by simp only [List.length_drop]; omega, hw, by simp only; omega, hh, hh4, hs2⟩ fun k => ?_
    rw [if_pos c1, if_pos (by omega)]
    rfl
   ·simp only [if_neg c1] at fin
    by_cases c2 : q = 2
    ·refine fin (z.1.set i.toNat ⟨(rd_T24 z.1 i).f0, (rd_T24 z.1 i).f1, (rd_T24 z.1 i).f2, wrap64 ((rd_T24 z.1 i).f3 + 1)⟩, w, h, p2, s2) ⟨by simp only [List.length_set]; omega, hw, by simp only; omega, hh, hh4, hs2⟩ fun k => ?_
     rw [if_pos c2, if_pos i0, if_pos hil]
    ·simp only [if_neg c2] at fin
     by_cases c3 : q = 3
     ·refine fin (z.1, w + 1, h, p2, s2) ⟨by simp only; omega, by simp only; omega, by simp only; omega, hh, hh4, hs2⟩ fun k => ?_
      rw [if_pos c3, show wrap64 (w + 1) = w + 1 from by unfold wrap64; omega]
     ·simp only [if_neg c3] at fin
      by_cases c4 : q = 4
      ·refine fin (z.1.set i.toNat ⟨(rd_T24 z.1 i).f0, (rd_T24 z.1 i).f1, wrap64 (-(rd_T24 z.1 i).f2), (rd_T24 z.1 i).f3⟩, w, h, p2, s2) ⟨by simp only [List.length_set]; omega, hw, by simp only; omega, hh, hh4, hs2⟩ fun k => ?_
       rw [if_pos c4, if_pos i0, if_pos hil]
      ·refine fin (z.1, w, h, p2, s2) ⟨by simp only; omega, hw, by simp only; omega, hh, hh4, hs2⟩ fun k => ?_
       rw [if_neg c4]
 ·obtain ⟨hl, hs⟩ := hi
  have ew : wrap64 ((z.1.length : Int) + 1) = ((j + 1 : Nat) : Int) := by rw [hl]; exact wrap_succ j (by omega)
  obtain ⟨i, p1, s1, e1, i0, i2, i1, hs1⟩ := next_ok hc hs (wrap64 ((z.1.length : Int) + 1))
  have hil : i ≤ (z.1.length : Int) := by
   rw [ew] at i1 i2
   by_cases d : 1 < ((j + 1 : Nat) : Int)
   ·have := i1 d; omega
   ·have := i2 (by omega); omega
  obtain ⟨n, p2, s2, e2, n0, _, n1, hs2⟩ := next_ok hc hs1 4
  refine ⟨(z.1.take i.toNat ++ [turnT (rd_T24 tiles (j : Int)) n] ++ z.1.drop i.toNat, p2, s2), ⟨by simp only [List.length_append, List.length_take, List.length_drop, List.length_cons, List.length_nil]; omega, hs2⟩, fun r h2 => Ev.step (fun k => ?_) h2⟩
  have t1 : (z.1.take i.toNat).length ≤ z.1.length := by rw [List.length_take]; omega
  simp only [spec_l30Draw.l1]
  rw [if_pos (by omega), e1]
  simp only [Option.bind_some, List.nil_append]
  rw [if_pos i0, if_pos hil, if_pos (by simp only [List.length_nil]; omega), if_pos (by omega), e2]
  simp only [Option.bind_some]
  rw [l30Turn_eq _ n n0 (by have := n1 (by omega); omega)]
  simp only [Option.bind_some, tup]
  rw [if_pos (by omega), if_pos (by simp only [List.length_append, List.length_take, List.length_drop, List.length_cons, List.length_nil]; omega), wrap_succ j (by omega)]
def Goes (c : List Int) (w h kinds : Int) (j : Nat) (F : Nat → Option (List Tl × Int × Int × Int × Int)) : Prop :=
 ∃ (tiles : List Tl) (p s : Int), tiles.length = j + 1 ∧ SrcOk c p s ∧ ∀ r, Ev (fun k => spec_l30Draw.l0 k w h kinds tiles ((j + 1 : Nat) : Int) c p s) r → Ev F r
theorem Goes.step {c : List Int} {w h kinds : Int} {j : Nat} {F G : Nat → Option (List Tl × Int × Int × Int × Int)} (hF : ∀ k, F (k + 1) = G k) (g : Goes c w h kinds j G) : Goes c w h kinds j F := by
 obtain ⟨t, p, s, h1, h2, h3⟩ := g
 exact ⟨t, p, s, h1, h2, fun r hr => Ev.step hF (h3 r hr)⟩
theorem l30Draw_j3 {c : List Int} (hc : CodeOk c) (w h kinds : Int) (tiles : List Tl) (hN : tiles.length ≤ 12) (p s : Int) (hS : SrcOk c p s) (x0 x1 x2 x3 : Int) :
  Goes c w h kinds tiles.length (fun k => spec_l30Draw.j3 k w h kinds tiles (tiles.length : Int) c p s x0 x1 x2 x3) := by
 obtain ⟨a, p1, s1, e1, _, _, _, hs1⟩ := next_ok hc hS kinds
 obtain ⟨b, p2, s2, e2, _, _, _, hs2⟩ := next_ok hc hs1 2
 by_cases d : (wrap64 ((tiles.length : Int) + w)) < (wrap64 (w * h))
 ·refine ⟨tiles ++ [⟨x0, x1, wrap64 ((wrap64 (1 + a)) * (wrap64 (1 - (wrap64 (2 * b))))), x3⟩], p2, s2, by simp, hs2, fun r hr => Ev.step (fun k => ?_) hr⟩
  simp only [spec_l30Draw.j3]
  rw [if_pos d, e1, Option.bind_some, e2, Option.bind_some, if_pos (by omega), wrap_succ _ (by omega)]
 ·refine ⟨tiles ++ [⟨x0, x1, x2, x3⟩], p, s, by simp, hS, fun r hr => Ev.step (fun k => ?_) hr⟩
  simp only [spec_l30Draw.j3]
  rw [if_neg d, if_pos (by omega), wrap_succ _ (by omega)]
theorem l30Draw_j2 {c : List Int} (hc : CodeOk c) (w h kinds : Int) (hw : 1 ≤ w) (tiles : List Tl) (hN : tiles.length ≤ 12) (p s : Int) (hS : SrcOk c p s) (x0 x1 x2 x3 : Int) :
  Goes c w h kinds tiles.length (fun k => spec_l30Draw.j2 k w h kinds tiles (tiles.length : Int) c p s x0 x1 x2 x3) := by
 obtain ⟨a, p1, s1, e1, _, _, _, hs1⟩ := next_ok hc hS kinds
 obtain ⟨b, p2, s2, e2, _, _, _, hs2⟩ := next_ok hc hs1 2
 by_cases d : (Int.tmod (tiles.length : Int) w) < (wrap64 (w - 1))
 ·refine Goes.step (fun k => ?_) (l30Draw_j3 hc w h kinds tiles hN p2 s2 hs2 x0 (wrap64 ((wrap64 (1 + a)) * (wrap64 (1 - (wrap64 (2 * b)))))) x2 x3)
  simp only [spec_l30Draw.j2]
  rw [if_neg (by omega), if_pos d, e1, Option.bind_some, e2, Option.bind_some]
 ·refine Goes.step (fun k => ?_) (l30Draw_j3 hc w h kinds tiles hN p s hS x0 x1 x2 x3)
  simp only [spec_l30Draw.j2]
  rw [if_neg (by omega), if_neg d]
theorem l30Draw_j1 {c : List Int} (hc : CodeOk c) (w h kinds : Int) (hw : 1 ≤ w) (hw4 : w ≤ 4) (tiles : List Tl) (hN : tiles.length ≤ 12) (p s : Int) (hS : SrcOk c p s) (x0 x1 x2 x3 : Int) :
  Goes c w h kinds tiles.length (fun k => spec_l30Draw.j1 k w h kinds tiles (tiles.length : Int) c p s x0 x1 x2 x3) := by
 by_cases d : (tiles.length : Int) ≥ w
 ·have e : wrap64 ((tiles.length : Int) - w) = (tiles.length : Int) - w := by unfold wrap64; omega
  refine Goes.step (fun k => ?_) (l30Draw_j2 hc w h kinds hw tiles hN p s hS (wrap64 (-((rd_T24 tiles (wrap64 ((tiles.length : Int) - w))).f2))) x1 x2 x3)
  simp only [spec_l30Draw.j1]
  rw [if_pos d, if_pos (by omega), if_pos (by omega)]
 ·refine Goes.step (fun k => ?_) (l30Draw_j2 hc w h kinds hw tiles hN p s hS x0 x1 x2 x3)
  simp only [spec_l30Draw.j1]
  rw [if_neg d]
theorem l30Draw_l0 {c : List Int} (hc : CodeOk c) (w h kinds : Int) (hw : 1 ≤ w) (hw4 : w ≤ 4) (tiles : List Tl) (hN : tiles.length ≤ 12) (hlt : (tiles.length : Int) < wrap64 (w * h)) (p s : Int) (hS : SrcOk c p s) :
  Goes c w h kinds tiles.length (fun k => spec_l30Draw.l0 k w h kinds tiles (tiles.length : Int) c p s) := by
 by_cases d : (Int.tmod (tiles.length : Int) w) > 0
 ·have hl : 1 ≤ tiles.length := by
   by_cases z : tiles.length = 0
   ·rw [z] at d; simp at d
   ·omega
  have e : wrap64 ((tiles.length : Int) - 1) = (tiles.length : Int) - 1 := by unfold wrap64; omega
  refine Goes.step (fun k => ?_) (l30Draw_j1 hc w h kinds hw hw4 tiles hN p s hS 0 0 0 (wrap64 (-((rd_T24 tiles (wrap64 ((tiles.length : Int) - 1))).f1))))
  simp only [spec_l30Draw.l0]
  rw [if_pos hlt, if_neg (by omega), if_pos d, if_pos (by omega), if_pos (by omega)]
 ·refine Goes.step (fun k => ?_) (l30Draw_j1 hc w h kinds hw hw4 tiles hN p s hS 0 0 0 0)
  simp only [spec_l30Draw.l0]
  rw [if_pos hlt, if_neg (by omega), if_neg d]
theorem l30Draw_all {c : List Int} (hc : CodeOk c) (w h kinds : Int) (hw : 1 ≤ w) (hw4 : w ≤ 4) (hh : 1 ≤ h) (hh4 : h ≤ 4) (N : Nat) (hN : wrap64 (w * h) = N) (h12 : N ≤ 12) (h1 : 1 ≤ N) (p s : Int) (hS : SrcOk c p s) :
  ∃ r, DrawOk c r ∧ Ev (fun k => spec_l30Draw.l0 k w h kinds [] 0 c p s) r := by
 refine ev_inv0 N (fun (z : List Tl × Int × Int) j => z.1.length = j ∧ SrcOk c z.2.1 z.2.2) (DrawOk c) (fun z i k => spec_l30Draw.l0 k w h kinds z.1 i c z.2.1 z.2.2) (fun z hi => ?_) (fun z j hj hi => .inr ?_) ([], p, s) ⟨rfl, hS⟩
 ·obtain ⟨hl, hs⟩ := hi
  obtain ⟨r, hr, he⟩ := l30Draw_l1 hc w h hw hw4 hh hh4 z.1 (by omega) (by omega) z.2.1 z.2.2 hs
  refine ⟨r, hr, Ev.step (fun k => ?_) he⟩
  simp only [spec_l30Draw.l0]
  rw [if_neg (by omega)]
 ·obtain ⟨hl, hs⟩ := hi
  obtain ⟨t, p', s', g1, g2, g3⟩ := l30Draw_l0 hc w h kinds hw hw4 z.1 (by omega) (by omega) z.2.1 z.2.2 hs
  rw [hl] at g1 g3
  exact ⟨(t, p', s'), ⟨g1, g2⟩, g3⟩
theorem l30Draw_ev {c : List Int} (hc : CodeOk c) (p s : Int) (hS : SrcOk c p s) : ∃ r, DrawOk c r ∧ Ev (fun k => spec_l30Draw.f k c p s) r := by
 obtain ⟨i, p1, s1, e1, i0, _, i1, hs1⟩ := next_ok hc hS 8
 have i8 := i1 (by omega)
 obtain ⟨b, p2, s2, e2, _, _, _, hs2⟩ := next_ok hc hs1 4
 have key : ∀ w h : Int, 1 ≤ w → w ≤ 4 → 1 ≤ h → h ≤ 4 → w * h ≤ 12 → rd_L4 [[2, 2], [3, 2], [2, 3], [3, 3], [1, 3], [4, 2], [1, 1], [3, 4]] i = [w, h] → ∃ r, DrawOk c r ∧ Ev (fun k => spec_l30Draw.f k c p s) r := by
  intro w h hw hw4 hh hh4 h12 he
  have h1 : 1 ≤ w * h := by have := Int.mul_le_mul hw hh (by omega) (by omega); omega
  obtain ⟨r, hr, hE⟩ := l30Draw_all hc w h (wrap64 (1 + b)) hw hw4 hh hh4 (w * h).toNat (by unfold wrap64; omega) (by omega) (by omega) p2 s2 hs2
  refine ⟨r, hr, Ev.unfold (fun k => ?_) hE⟩
  unfold spec_l30Draw.f
  rw [Option.bind_some, e1, Option.bind_some, if_pos i0, if_pos (by simpa using i8), he]
  simp only [List.length_cons, List.length_nil]
  rw [if_pos (by omega), if_pos (by omega), e2]
  rfl
 have : i = 0 ∨ i = 1 ∨ i = 2 ∨ i = 3 ∨ i = 4 ∨ i = 5 ∨ i = 6 ∨ i = 7 := by omega
 rcases this with rfl | rfl | rfl | rfl | rfl | rfl | rfl | rfl
 ·exact key 2 2 (by omega) (by omega) (by omega) (by omega) (by omega) rfl
 ·exact key 3 2 (by omega) (by omega) (by omega) (by omega) (by omega) rfl
 ·exact key 2 3 (by omega) (by omega) (by omega) (by omega) (by omega) rfl
 ·exact key 3 3 (by omega) (by omega) (by omega) (by omega) (by omega) rfl
 ·exact key 1 3 (by omega) (by omega) (by omega) (by omega) (by omega) rfl
 ·exact key 4 2 (by omega) (by omega) (by omega) (by omega) (by omega) rfl
 ·exact key 1 1 (by omega) (by omega) (by omega) (by omega) (by omega) rfl
 ·exact key 3 4 (by omega) (by omega) (by omega) (by omega) (by omega) rfl
end Go.Proofs.Ytgcagmmghckbbaa.A
/- TurnedLayouts: of whatever layout and tile are drawn, both turn them alike; a turned layout is correct, and the turns of a tile that make four restore it. -/
namespace Go.Proofs.Ytgcagmmghckbbaa.Pure
set_option linter.unusedSimpArgs false
set_option linter.unusedVariables false
open Go.RowKit Go.Proofs.YtgcagmmghckbbaaW.PrintWords Go.Proofs.YtgcagmmghckbbaaW.PrintLast Go.Proofs.YtgcagmmghckbbaaW.PrintMore Go.Proofs.Ytgcagmmghckbbaa.A
theorem solOut_len' (l : List Tl) (w h : Int) : ((solOut l w h).2 = 0 → (solOut l w h).1.length = l.length ∧ codeV l w h = 0) := by
  unfold solOut outS
  split
  · rename_i c
    cases hf : (searchV l w h 1).found with
    | nil =>
      simp only
      split
      · exact fun e => absurd e (by decide)
      · exact fun e => absurd e (by decide)
    | cons x xs =>
      exact fun _ => ⟨(search_good l w h 1 x (by rw [show visitV l w h 1 l.length [] [] ⟨0, [], false⟩ = searchV l w h 1 from rfl, hf]; simp)).1, c⟩
  · rename_i c
    exact fun e => absurd e c
theorem drawLayout_ev {c : List Int} (hc : CodeOk c) {p s : Int} (hS : SrcOk c p s) : ∃ r : List Tl × Int × Int × List St × Int × Int, (r.1.length ≤ 12 ∧ r.2.2.2.1.length ≤ 12) ∧ Ev (fun k => spec_l30DrawLayout.f k c p s) r := by
  obtain ⟨x, hx, hE⟩ := l30Draw_ev hc p s hS
  obtain ⟨tiles, wd, hg, p1, s1⟩ := x
  obtain ⟨hl, hw1, hw5, hh1, hh4, hS1⟩ := hx
  simp only at hl hw1 hw5 hh1 hh4 hS1
  have hL : tiles.length ≤ 1048576 := by omega
  have hSS : Ev (fun k => spec_SolveJigsaw.f k tiles wd hg) (solOut tiles wd hg) := Ev.val fun k => by unfold spec_SolveJigsaw.f; exact if_pos hL
  have hsol := solOut_len' tiles wd hg
  obtain ⟨⟨lay, bad⟩, hq⟩ : ∃ q, q = solOut tiles wd hg := ⟨_, rfl⟩
  rw [← hq] at hSS hsol
  simp only at hsol
  unfold spec_l30DrawLayout.f
  by_cases d : bad = 0
  · obtain ⟨e1, e2⟩ := hsol d
    obtain ⟨_, _, _, _, _, hwh, _⟩ := codeV_zero e2
    have hpos : 1 ≤ wd * hg := by have := Int.mul_le_mul hw1 hh1 (by omega) (by omega); omega
    obtain ⟨i, p2, s2, n1, i0, iz, i1, hS2⟩ := next_ok hc hS1 (lay.length : Int)
    have hil : i < (lay.length : Int) := by
      by_cases z : 1 < (lay.length : Int)
      · exact i1 z
      · have := iz (by omega); omega
    obtain ⟨m, p3, s3, n2, m0, _, m1, hS3⟩ := next_ok hc hS2 8
    obtain ⟨t, p4, s4, n3, t0, _, _, hS4⟩ := next_ok hc hS3 (wrap64 ((lay.length : Int) + 1))
    have c8 : (1 : Int) ≤ (lay.length : Int) := by omega
    by_cases c0 : m = 0
    · refine ⟨(tiles, wd, hg, lay.set i.toNat ⟨(rd_T74 lay i).f0, wrap64 ((rd_T74 lay i).f1 + 1)⟩, p3, s3), ⟨by simpa using hl, by simp; omega⟩, Ev.bind hE (Ev.bind hSS ?_)⟩
      simp only [d, if_true, n1, n2, Option.bind_some, if_pos i0, if_pos hil, if_pos c0]
      exact Ev.now _
    · by_cases c1 : m = 1
      · refine ⟨(tiles, wd, hg, lay.set i.toNat ⟨t, (rd_T74 lay i).f1⟩, p4, s4), ⟨by simpa using hl, by simp; omega⟩, Ev.bind hE (Ev.bind hSS ?_)⟩
        simp only [d, if_true, n1, n2, n3, Option.bind_some, if_pos i0, if_pos hil, if_neg c0, if_pos c1]
        exact Ev.now _
      · by_cases c2 : m = 2
        · refine ⟨(tiles, wd, hg, lay.drop 1, p3, s3), ⟨by simpa using hl, by simp; omega⟩, Ev.bind hE (Ev.bind hSS ?_)⟩
          simp only [d, if_true, n1, n2, Option.bind_some, if_neg c0, if_neg c1, if_pos c2, if_pos c8]
          exact Ev.now _
        · refine ⟨(tiles, wd, hg, lay, p3, s3), ⟨by simpa using hl, by simp; omega⟩, Ev.bind hE (Ev.bind hSS ?_)⟩
          simp only [d, if_true, n1, n2, Option.bind_some, if_neg c0, if_neg c1, if_neg c2]
          exact Ev.now _
  · refine ⟨(tiles, wd, hg, [⟨0, 0⟩, ⟨1, 0⟩], p1, s1), ⟨by simpa using hl, by simp⟩, Ev.bind hE (Ev.bind hSS ?_)⟩
    simp only [d, if_false]
    exact Ev.now _
theorem drawTurnTile_ev {c : List Int} (hc : CodeOk c) : ∃ r : Int × Int × Int × Int × Int, Ev (fun k => spec_DrawTurnTile.f k c) r := by
  obtain ⟨p, s, hS, hF⟩ := from_ok hc
  obtain ⟨x, hx, hE⟩ := l30Draw_ev hc p s hS
  obtain ⟨tiles, wd, hg, p1, s1⟩ := x
  obtain ⟨hl, hw1, hw5, hh1, hh4, hS1⟩ := hx
  simp only at hl hw1 hw5 hh1 hh4 hS1
  obtain ⟨i, p2, s2, n1, i0, iz, i1, hS2⟩ := next_ok hc hS1 5
  obtain ⟨m, p3, s3, n2, m0, _, m1, hS3⟩ := next_ok hc hS2 20
  unfold spec_DrawTurnTile.f
  by_cases d : (tiles.length : Int) = 0
  · exact ⟨_, Ev.bind hF (Ev.bind hE (by simp only [if_pos d]; exact Ev.now _))⟩
  · exact ⟨_, Ev.bind hF (Ev.bind hE (by simp only [if_neg d, if_pos (show (0 : Int) < (tiles.length : Int) from by omega), n1, n2, Option.bind_some]; exact Ev.now _))⟩
theorem tile_back (t : Tl) (n : Int) (h : (tileOut t n).2.2.2.2 = 0) :
    ∃ u : Tl, tileOut t n = (u.f0, u.f1, u.f2, u.f3, 0) ∧ tileOut u (Int.tmod (wrap64 (4 - n)) 4) = (t.f0, t.f1, t.f2, t.f3, 0) := by
  unfold tileOut at h
  by_cases ho : okT t = true
  · by_cases hb : inB n 0 3 = true
    · obtain ⟨h0, h1⟩ := (inB_iff _ _ _).1 hb
      refine ⟨turnT t n, by unfold tileOut; rw [if_pos ho, if_pos hb], ?_⟩
      have hok := turnT_ok t n ho
      have : n = 0 ∨ n = 1 ∨ n = 2 ∨ n = 3 := by omega
      unfold tileOut
      rw [if_pos hok]
      rcases this with rfl | rfl | rfl | rfl <;> simp [wrap64, turnT, inB]
    · rw [if_pos ho, if_neg hb] at h; exact absurd h (by decide)
  · rw [if_neg ho] at h; exact absurd h (by decide)
theorem FnTurnedLayouts : Go.Proofs.Ytgcagmmghckbbaa.A.FnTurnedLayouts.Pure := by
  intro c hcode
  apply Ev.rounds
  unfold laws_FnTurnedLayouts.f
  by_cases big : (c.length : Int) > 4096
  · exact Ev.bindc (a := true) (by unfold laws_big.f; simp only [decide_eq_true big]) (Ev.val fun k => by simp)
  refine Ev.bindc (a := false) (by unfold laws_big.f; simp only [decide_eq_false big]) ?_
  simp only [Bool.false_eq_true, if_false]
  have hc : CodeOk c := codeOk_of (by omega) hcode.2
  obtain ⟨p, s, hS, hF⟩ := from_ok hc
  obtain ⟨⟨tiles, wd, hg, lay, p1, s1⟩, ⟨hl, hy⟩, hE⟩ := drawLayout_ev hc hS
  simp only at hl hy
  obtain ⟨⟨a, b, e, f, turn⟩, hT⟩ := drawTurnTile_ev hc
  have hL : tiles.length ≤ 1048576 := by omega
  have hY : lay.length ≤ 1048576 := by omega
  have hlen := turnOut_len tiles wd hg lay hY
  obtain ⟨t, ht⟩ : ∃ t : Tl, t = ⟨a, b, e, f⟩ := ⟨_, rfl⟩
  have hI : Ev (fun k => impl_TurnTile.f k a b e f turn) (tileOut t turn) := by have := implTurnTile_ev t turn; rw [ht] at this; rw [ht]; exact this
  have hSp : Ev (fun k => spec_TurnTile.f k a b e f turn) (tileOut t turn) := by have := specTurnTile_ev t turn; rw [ht] at this; rw [ht]; exact this
  refine Ev.bind (a := (tiles, wd, hg, lay)) (by unfold spec_DrawTurnLayout.f; exact Ev.bind hF (Ev.bind hE (Ev.now _))) (Ev.bind (implTurnLayout_ev tiles wd hg lay hY) (Ev.bind (specTurnLayout_ev tiles wd hg lay hL hY) (Ev.bind hT (Ev.bind hI (Ev.bind hSp ?_)))))
  simp only [if_true]
  refine Ev.bind (likeSets_ev _ hlen) ?_
  simp only [if_true, beq_self_eq_true, Bool.not_true, Bool.or_false, Bool.or_self, Bool.false_eq_true, if_false]
  refine Ev.bind (implIsCorrect_ev tiles wd hg lay hY) (Ev.bind (specIsCorrect_ev tiles wd hg lay hL hY) ?_)
  simp only [bne_self_eq_false]
  refine Ev.succ ?_
  simp only [laws_FnTurnedLayouts.j0, Bool.false_eq_true, if_false]
  have hcor : (turnOut tiles wd hg lay).2 = 0 → layV tiles hg wd (turnOut tiles wd hg lay).1 = true := by
    unfold turnOut
    by_cases c1 : codeV tiles wd hg = 0
    · rw [if_pos c1]
      by_cases c2 : layV tiles wd hg lay = true
      · rw [if_pos c2]
        exact fun _ => lay_turned c2
      · rw [if_neg c2]
        exact fun h => absurd h (by decide)
    · rw [if_neg c1]
      exact fun h => absurd h c1
  have fin : Ev (fun k => if (turnOut tiles wd hg lay).2 = 0 then (impl_IsCorrectLayout.f k tiles hg wd (turnOut tiles wd hg lay).1).bind fun t => some t else some true) true := by
    by_cases d : (turnOut tiles wd hg lay).2 = 0
    · simp only [if_pos d]
      refine Ev.bind (implIsCorrect_ev tiles hg wd _ hlen) ?_
      rw [hcor d]
      exact Ev.now _
    · simp only [if_neg d]
      exact Ev.now _
  by_cases z : (tileOut t turn).2.2.2.2 = 0
  · obtain ⟨u, hu1, hu2⟩ := tile_back t turn z
    simp only [hu1, if_true]
    have hB : Ev (fun k => impl_TurnTile.f k u.f0 u.f1 u.f2 u.f3 (Int.tmod (wrap64 (4 - turn)) 4)) (t.f0, t.f1, t.f2, t.f3, 0) := by rw [← hu2]; exact implTurnTile_ev u _
    refine Ev.bind hB ?_
    simp only [ht, if_true, beq_self_eq_true, Bool.not_true, Bool.or_false, Bool.or_self, Bool.false_eq_true, if_false]
    exact fin
  · simp only [if_neg z]
    exact fin
end Go.Proofs.Ytgcagmmghckbbaa.Pure

