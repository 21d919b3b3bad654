/- What the row of the law FnExactSolveJigsaw stands on, part 6. -/
import Derived.Test.YtgcagmmghckbbaaMFnExactSolveJigsaw5
namespace Go.Proofs.Ytgcagmmghckbbaa.A
open Go.RowKit Go.Proofs.YtgcagmmghckbbaaW.PrintWords Go.Proofs.YtgcagmmghckbbaaW.PrintLast Go.Proofs.YtgcagmmghckbbaaW.PrintMore
attribute [local go_sem] max2_int min2_int max_two min_two max_three min_three max_four min_four   -- for this text's walks alone
set_option linter.unusedVariables false
set_option linter.unusedSimpArgs false

mutual
def laws_FnExactSolveJigsaw.j0 : Nat → List (S23) → Int → Int → List (S74) → Int → List (S24) → List (S74) → Int → Bool → Option (Bool)
  | 0, _, _, _, _, _, _, _, _, _ => none
  | k + 1, x0, x1, x2, x8, x9, x10, x11, x12, x48 => if x48 = true then (some false) else ((laws_toTileS.f k x0).bind fun t766 => ((laws_eqTileS.f k x10 t766).bind fun t769 => (if t769 = true then ((laws_markTileS.f k x10 1).bind fun bt770 => (if bt770.1 < 0 then (laws_FnExactSolveJigsaw.j1 k x0 x1 x2 x8 x9 x11 true) else ((laws_eqSetS.f k x11 x8).bind fun t772 => (if t772 = true then (laws_FnExactSolveJigsaw.j1 k x0 x1 x2 x8 x9 x11 (x12 != x9)) else (laws_FnExactSolveJigsaw.j1 k x0 x1 x2 x8 x9 x11 true))))) else (some false))))
def laws_FnExactSolveJigsaw.j1 : Nat → List (S23) → Int → Int → List (S74) → Int → List (S74) → Bool → Option (Bool)
  | 0, _, _, _, _, _, _, _ => none
  | k + 1, x0, x1, x2, x8, x9, x11, x69 => if x69 = true then (some false) else ((laws_markSetS.f k x11 1).bind fun bt773 => ((laws_heldSetS.f k bt773.2 1).bind fun t775 => (if t775 < 0 then (some false) else (if t775 = bt773.1 then ((laws_toTileS.f k x0).bind fun t776 => ((impl_SolveJigsaw.f k t776 x1 x2).bind fun bt779 => ((laws_eqSetS.f k bt779.1 x8).bind fun t783 => (if t783 = true then (laws_FnExactSolveJigsaw.j2 k bt773.2 bt773.1 (bt779.2 != x9)) else (laws_FnExactSolveJigsaw.j2 k bt773.2 bt773.1 true))))) else (some false)))))
def laws_FnExactSolveJigsaw.j2 : Nat → List (S74) → Int → Bool → Option (Bool)
  | 0, _, _, _ => none
  | k + 1, x11, x14, x97 => if x97 = true then (some false) else ((laws_heldSetS.f k x11 1).bind fun t784 => (if t784 < 0 then (some false) else (if t784 = x14 then (some true) else (some false))))
end
def laws_FnExactSolveJigsaw.f (k : Nat) (l0 : List (S23)) (a1 : Int) (a2 : Int) : Option (Bool) := (laws_szTileS.f l0 1048576).bind fun t750 => (if t750 < 0 then (some true) else ((laws_toTileS.f k l0).bind fun t751 => ((spec_SolveJigsaw.f k t751 a1 a2).bind fun bt754 => ((laws_toTileS.f k l0).bind fun t758 => ((impl_SolveJigsaw.f k t758 a1 a2).bind fun bt761 => ((laws_eqSetS.f k bt761.1 bt754.1).bind fun t765 => (if t765 = true then (laws_FnExactSolveJigsaw.j0 k l0 a1 a2 bt754.1 bt754.2 t758 bt761.1 bt761.2 (bt761.2 != bt754.2)) else (laws_FnExactSolveJigsaw.j0 k l0 a1 a2 bt754.1 bt754.2 t758 bt761.1 bt761.2 true))))))))
set_option maxHeartbeats 8000000 in
set_option maxRecDepth 100000 in
theorem laws_FnExactSolveJigsaw.calls (k : Nat) (A0 : Option Addr) (c0 : Nat) (l0 : List (S23)) (a1 : Int) (a2 : Int) (r : Bool) (w : World) (hr0 : Kd.C k23 w A0 l0.length l0) (hc0 : l0.length ≤ c0) (h : laws_FnExactSolveJigsaw.f k l0 a1 a2 = some r) :
    Calls Try.prog 10 #[.slice A0 l0.length c0, .int .i64 a1, .int .i64 a2] w fun e w' => e = .returned (.bool r) ∧ Below w.heap.size w w' := by
  have HR0 := Aside0.mk hr0
  have HC0 := Aside0.mk hc0
  clear hr0 hc0
  have HB := Aside0.mk (Below.refl w.heap.size w)
  have H : ((laws_szTileS.f l0 1048576).bind fun t750 => (if t750 < 0 then (some true) else ((laws_toTileS.f k l0).bind fun t751 => ((spec_SolveJigsaw.f k t751 a1 a2).bind fun bt754 => ((laws_toTileS.f k l0).bind fun t758 => ((impl_SolveJigsaw.f k t758 a1 a2).bind fun bt761 => ((laws_eqSetS.f k bt761.1 bt754.1).bind fun t765 => (if t765 = true then (laws_FnExactSolveJigsaw.j0 k l0 a1 a2 bt754.1 bt754.2 t758 bt761.1 bt761.2 (bt761.2 != bt754.2)) else (laws_FnExactSolveJigsaw.j0 k l0 a1 a2 bt754.1 bt754.2 t758 bt761.1 bt761.2 true))))))))) = some r := h
  clear h
  replace H := Option.bind_eq_some_iff.mp H
  obtain ⟨t750, A40, H⟩ := H
  replace H : (if t750 < 0 then (some true) else ((laws_toTileS.f k l0).bind fun t751 => ((spec_SolveJigsaw.f k t751 a1 a2).bind fun bt754 => ((laws_toTileS.f k l0).bind fun t758 => ((impl_SolveJigsaw.f k t758 a1 a2).bind fun bt761 => ((laws_eqSetS.f k bt761.1 bt754.1).bind fun t765 => (if t765 = true then (laws_FnExactSolveJigsaw.j0 k l0 a1 a2 bt754.1 bt754.2 t758 bt761.1 bt761.2 (bt761.2 != bt754.2)) else (laws_FnExactSolveJigsaw.j0 k l0 a1 a2 bt754.1 bt754.2 t758 bt761.1 bt761.2 true)))))))) = some r := H
  have A4 := Aside0.mk A40
  clear A40
  have H0_ := Aside0.mk H
  clear H
  go_enter Try.func10, Try.ntmps10
  go_wp2_with (first | ((with_reducible refine gate_callee (f := 17) rfl ?_); refine goesL_ (some 20) rfl rfl Try.func17 (by kernel_rfl) rfl #[.slice A0 l0.length c0, .int .i64 1048576] rfl (by (try simp only [List.map_toArray, List.map_cons, List.map_nil]); first | done | rfl | (simp only [List.length_drop, List.length_take]; rfl)) ?_; (with_reducible refine (laws_szTileS.calls _ _ l0 1048576 t750 _ ?side1 ?side2 A4.out).mono ?_); (case side1 => repeat (first | exact HR0.out | (with_reducible refine Kd.C_alloc ?_ _) | (with_reducible refine Kd.C_drewN ?_ _) | (with_reducible refine Kd.C_drew ?_))); (case side2 => exact HC0.out); rintro e w' ⟨rfl, ⟨nd, rfl⟩⟩; refine ⟨_, rfl, ?_⟩; refine Stop0.out ?_))
  refine Stop0.mk ?_
  have H := H0_.out
  clear H0_
  by_cases c5 : t750 < 0
  · rw [if_pos c5] at H
    have c5b0 : decide (t750 < 0) = true := decide_eq_true c5
    clear c5
    obtain rfl := Option.some.inj H
    go_wp2
    go_ret
    exact ⟨by first | rfl | (simp [errW_none, errW_some] <;> rfl) | (simp [*, errW_none, errW_some] <;> rfl), by repeat (first | (with_reducible first | exact HB.out | apply below_alloc | apply pw_below_drewN | apply below_drew1) | exact HB.out)⟩
  · rw [if_neg c5] at H
    have c5b0 : decide (t750 < 0) = false := decide_eq_false c5
    clear c5
    replace H := Option.bind_eq_some_iff.mp H
    obtain ⟨t751, A60, H⟩ := H
    replace H : ((spec_SolveJigsaw.f k t751 a1 a2).bind fun bt754 => ((laws_toTileS.f k l0).bind fun t758 => ((impl_SolveJigsaw.f k t758 a1 a2).bind fun bt761 => ((laws_eqSetS.f k bt761.1 bt754.1).bind fun t765 => (if t765 = true then (laws_FnExactSolveJigsaw.j0 k l0 a1 a2 bt754.1 bt754.2 t758 bt761.1 bt761.2 (bt761.2 != bt754.2)) else (laws_FnExactSolveJigsaw.j0 k l0 a1 a2 bt754.1 bt754.2 t758 bt761.1 bt761.2 true)))))) = some r := H
    have A6 := Aside0.mk A60
    clear A60
    have H0_ := Aside0.mk H
    clear H
    go_wp2_with (first | ((with_reducible refine gate_callee (f := 19) rfl ?_); refine goesL_ (some 25) rfl rfl Try.func19 (by kernel_rfl) rfl #[.slice A0 l0.length c0] rfl (by (try simp only [List.map_toArray, List.map_cons, List.map_nil]); first | done | rfl | (simp only [List.length_drop, List.length_take]; rfl)) ?_; (with_reducible refine (laws_toTileS.calls k _ _ l0 t751 _ ?side1 ?side2 A6.out).mono ?_); (case side1 => repeat (first | exact (Kd.C_below HR0.out HB.out) | (with_reducible refine Kd.C_alloc ?_ _) | (with_reducible refine Kd.C_drewN ?_ _) | (with_reducible refine Kd.C_drew ?_))); (case side2 => exact HC0.out); rintro e w7 ⟨v752, rfl, ho0, hb⟩; refine ⟨_, rfl, ?_⟩; have n0_ := Aside0.mk (Kd.R_lower ho0 (below_size (by repeat (first | (with_reducible first | exact HB.out | apply below_alloc | apply pw_below_drewN | apply below_drew1) | exact HB.out)))); have n1_ := Aside0.mk (below_step (by repeat (first | (with_reducible first | exact HB.out | apply below_alloc | apply pw_below_drewN | apply below_drew1) | exact HB.out)) hb); clear HB; have HO753 := n0_; have HB := n1_; clear n0_ n1_; (try clear hb); (try clear hb2); (try clear hk); (try clear hi); (try clear ho0); refine Stop0.out ?_))
    refine Stop0.mk ?_
    have H := H0_.out
    clear H0_
    replace H := Option.bind_eq_some_iff.mp H
    obtain ⟨⟨t754, t755⟩, A80, H⟩ := H
    replace H : ((laws_toTileS.f k l0).bind fun t758 => ((impl_SolveJigsaw.f k t758 a1 a2).bind fun bt761 => ((laws_eqSetS.f k bt761.1 t754).bind fun t765 => (if t765 = true then (laws_FnExactSolveJigsaw.j0 k l0 a1 a2 t754 t755 t758 bt761.1 bt761.2 (bt761.2 != t755)) else (laws_FnExactSolveJigsaw.j0 k l0 a1 a2 t754 t755 t758 bt761.1 bt761.2 true))))) = some r := H
    have A8 := Aside0.mk A80
    clear A80
    have H0_ := Aside0.mk H
    clear H
    obtain ⟨Ao9, co9, eo9⟩ := Kd.R_slice HO753.out
    subst eo9
    go_wp2_with (first | ((with_reducible refine gate_callee (f := 43) rfl ?_); refine goesL_ (some 28) rfl rfl Try.func43 (by kernel_rfl) rfl #[.slice Ao9 t751.length co9, .int .i64 a1, .int .i64 a2] rfl (by (try simp only [List.map_toArray, List.map_cons, List.map_nil]); first | done | rfl | (simp only [List.length_drop, List.length_take]; rfl)) ?_; (with_reducible refine (spec_SolveJigsaw.calls k _ _ t751 a1 a2 t754 t755 _ ?side1 ?side2 A8.out).mono ?_); (case side1 => repeat (first | exact (Kd.R_reads' HO753.out).2.2 | (with_reducible refine Kd.C_alloc ?_ _) | (with_reducible refine Kd.C_drewN ?_ _) | (with_reducible refine Kd.C_drew ?_))); (case side2 => exact (Kd.R_reads' HO753.out).2.1); rintro e w10 ⟨v756, rfl, ho0, hb⟩; refine ⟨_, rfl, ?_⟩; have n0_ := Aside0.mk (Kd.R_below (by (with_reducible repeat (first | apply Kd.R_alloc | apply Kd.R_drewN | apply Kd.R_drew)); exact HO753.out) hb); have n1_ := Aside0.mk (Kd.R_lower ho0 (below_size (by repeat (first | (with_reducible first | exact HB.out | apply below_alloc | apply pw_below_drewN | apply below_drew1) | exact HB.out)))); have n2_ := Aside0.mk (below_step (by repeat (first | (with_reducible first | exact HB.out | apply below_alloc | apply pw_below_drewN | apply below_drew1) | exact HB.out)) hb); clear HO753; clear HB; have HO753 := n0_; have HO757 := n1_; have HB := n2_; clear n0_ n1_ n2_; (try clear hb); (try clear hb2); (try clear hk); (try clear hi); (try clear ho0); refine Stop0.out ?_))
    refine Stop0.mk ?_
    have H := H0_.out
    clear H0_
    replace H := Option.bind_eq_some_iff.mp H
    obtain ⟨t758, A110, H⟩ := H
    replace H : ((impl_SolveJigsaw.f k t758 a1 a2).bind fun bt761 => ((laws_eqSetS.f k bt761.1 t754).bind fun t765 => (if t765 = true then (laws_FnExactSolveJigsaw.j0 k l0 a1 a2 t754 t755 t758 bt761.1 bt761.2 (bt761.2 != t755)) else (laws_FnExactSolveJigsaw.j0 k l0 a1 a2 t754 t755 t758 bt761.1 bt761.2 true)))) = some r := H
    have A11 := Aside0.mk A110
    clear A110
    have H0_ := Aside0.mk H
    clear H
    go_wp2_with (first | ((with_reducible refine gate_callee (f := 19) rfl ?_); refine goesL_ (some 32) rfl rfl Try.func19 (by kernel_rfl) rfl #[.slice A0 l0.length c0] rfl (by (try simp only [List.map_toArray, List.map_cons, List.map_nil]); first | done | rfl | (simp only [List.length_drop, List.length_take]; rfl)) ?_; (with_reducible refine (laws_toTileS.calls k _ _ l0 t758 _ ?side1 ?side2 A11.out).mono ?_); (case side1 => repeat (first | exact (Kd.C_below HR0.out HB.out) | (with_reducible refine Kd.C_alloc ?_ _) | (with_reducible refine Kd.C_drewN ?_ _) | (with_reducible refine Kd.C_drew ?_))); (case side2 => exact HC0.out); rintro e w12 ⟨v759, rfl, ho0, hb⟩; refine ⟨_, rfl, ?_⟩; have n0_ := Aside0.mk (Kd.R_elder' (by (with_reducible repeat (first | apply Kd.R_alloc | apply Kd.R_drewN | apply Kd.R_drew)); exact HO753.out) (Kd.R_base ho0) hb); have n1_ := Aside0.mk (Kd.R_below (by (with_reducible repeat (first | apply Kd.R_alloc | apply Kd.R_drewN | apply Kd.R_drew)); exact HO757.out) hb); have n2_ := Aside0.mk (Kd.R_lower (Kd.R_new' ho0 (Kd.R_lt (by (with_reducible repeat (first | apply Kd.R_alloc | apply Kd.R_drewN | apply Kd.R_drew)); exact HO753.out))) (below_size (by repeat (first | (with_reducible first | exact HB.out | apply below_alloc | apply pw_below_drewN | apply below_drew1) | exact HB.out)))); have n3_ := Aside0.mk (below_step (by repeat (first | (with_reducible first | exact HB.out | apply below_alloc | apply pw_below_drewN | apply below_drew1) | exact HB.out)) hb); clear HO753; clear HO757; clear HB; have HO753 := n0_; have HO757 := n1_; have HO760 := n2_; have HB := n3_; clear n0_ n1_ n2_ n3_; (try clear hb); (try clear hb2); (try clear hk); (try clear hi); (try clear ho0); refine Stop0.out ?_))
    refine Stop0.mk ?_
    have H := H0_.out
    clear H0_
    replace H := Option.bind_eq_some_iff.mp H
    obtain ⟨⟨t761, t762⟩, A130, H⟩ := H
    replace H : ((laws_eqSetS.f k t761 t754).bind fun t765 => (if t765 = true then (laws_FnExactSolveJigsaw.j0 k l0 a1 a2 t754 t755 t758 t761 t762 (t762 != t755)) else (laws_FnExactSolveJigsaw.j0 k l0 a1 a2 t754 t755 t758 t761 t762 true))) = some r := H
    have A13 := Aside0.mk A130
    clear A130
    have H0_ := Aside0.mk H
    clear H
    obtain ⟨Ao14, co14, eo14⟩ := Kd.R_slice HO760.out
    subst eo14
    go_wp2_with (first | ((with_reducible refine gate_callee (f := 44) rfl ?_); refine goesL_ (some 37) rfl rfl Try.func44 (by kernel_rfl) rfl #[.slice Ao14 t758.length co14, .int .i64 a1, .int .i64 a2] rfl (by (try simp only [List.map_toArray, List.map_cons, List.map_nil]); first | done | rfl | (simp only [List.length_drop, List.length_take]; rfl)) ?_; (with_reducible refine (impl_SolveJigsaw.calls k _ _ t758 a1 a2 t761 t762 _ ?side1 ?side2 A13.out).mono ?_); (case side1 => repeat (first | exact (Kd.R_reads' HO760.out).2.2 | (with_reducible refine Kd.C_alloc ?_ _) | (with_reducible refine Kd.C_drewN ?_ _) | (with_reducible refine Kd.C_drew ?_))); (case side2 => exact (Kd.R_reads' HO760.out).2.1); rintro e w15 ⟨v763, rfl, ho0, hb⟩; refine ⟨_, rfl, ?_⟩; have n0_ := Aside0.mk (Kd.R_below (by (with_reducible repeat (first | apply Kd.R_alloc | apply Kd.R_drewN | apply Kd.R_drew)); exact HO753.out) hb); have n1_ := Aside0.mk (Kd.R_elder' (by (with_reducible repeat (first | apply Kd.R_alloc | apply Kd.R_drewN | apply Kd.R_drew)); exact HO757.out) (Kd.R_base ho0) hb); have n2_ := Aside0.mk (Kd.R_below (by (with_reducible repeat (first | apply Kd.R_alloc | apply Kd.R_drewN | apply Kd.R_drew)); exact HO760.out) hb); have n3_ := Aside0.mk (Kd.R_lower (Kd.R_new' ho0 (Kd.R_lt (by (with_reducible repeat (first | apply Kd.R_alloc | apply Kd.R_drewN | apply Kd.R_drew)); exact HO757.out))) (below_size (by repeat (first | (with_reducible first | exact HB.out | apply below_alloc | apply pw_below_drewN | apply below_drew1) | exact HB.out)))); have n4_ := Aside0.mk (below_step (by repeat (first | (with_reducible first | exact HB.out | apply below_alloc | apply pw_below_drewN | apply below_drew1) | exact HB.out)) hb); clear HO753; clear HO757; clear HO760; clear HB; have HO753 := n0_; have HO757 := n1_; have HO760 := n2_; have HO764 := n3_; have HB := n4_; clear n0_ n1_ n2_ n3_ n4_; (try clear hb); (try clear hb2); (try clear hk); (try clear hi); (try clear ho0); refine Stop0.out ?_))
    refine Stop0.mk ?_
    have H := H0_.out
    clear H0_
    have HC16 := Aside0.mk H
    clear H
    go_upto_region 8 with (fail)
    go_cut [48] (fun v48 wc => ∃ (kq : Nat) (x48_15 : Bool), v48 = .bool x48_15 ∧ Aside0 (laws_FnExactSolveJigsaw.j0 kq l0 a1 a2 t754 t755 t758 t761 t762 x48_15 = some r) ∧ Aside0 (kq ≤ k) ∧ Aside0 (Kd.R k74 74 wc w.heap.size (fun k_ => some k_ ≠ (v763 : Value).ownBlock) v756 t754) ∧ Aside0 (Kd.R k24 24 wc w.heap.size (fun _ => True) (.slice Ao14 t758.length co14) t758) ∧ Aside0 (Kd.R k74 74 wc w.heap.size (fun k_ => some k_ ≠ (v756 : Value).ownBlock) v763 t761) ∧ Aside0 (Below w.heap.size w wc))
    case first =>
      have H := HC16.out
      clear HC16
      replace H := Option.bind_eq_some_iff.mp H
      obtain ⟨t765, A170, H⟩ := H
      replace H : (if t765 = true then (laws_FnExactSolveJigsaw.j0 k l0 a1 a2 t754 t755 t758 t761 t762 (t762 != t755)) else (laws_FnExactSolveJigsaw.j0 k l0 a1 a2 t754 t755 t758 t761 t762 true)) = some r := H
      have A17 := Aside0.mk A170
      clear A170
      by_cases c18 : t765 = true
      · subst c18
        have H1 : (laws_FnExactSolveJigsaw.j0 k l0 a1 a2 t754 t755 t758 t761 t762 (t762 != t755)) = some r := by rw [if_pos rfl] at H; exact H
        clear H
        have H := H1
        clear H1
        have H' := Aside0.mk H
        clear H
        obtain ⟨Ao19, co19, eo19⟩ := Kd.R_slice HO764.out
        subst eo19
        obtain ⟨Ao20, co20, eo20⟩ := Kd.R_slice HO757.out
        subst eo20
        go_wp2_with (first | ((with_reducible refine gate_callee (f := 36) rfl ?_); refine goesL_ (some 42) rfl rfl Try.func36 (by kernel_rfl) rfl #[.slice Ao19 t761.length co19, .slice Ao20 t754.length co20] rfl (by (try simp only [List.map_toArray, List.map_cons, List.map_nil]); first | done | rfl | (simp only [List.length_drop, List.length_take]; rfl)) ?_; (with_reducible refine (laws_eqSetS.calls k _ _ t761 _ _ t754 true _ ?side1 ?side2 ?side3 ?side4 A17.out).mono ?_); (case side1 => repeat (first | exact (Kd.R_reads' HO764.out).2.2 | (with_reducible refine Kd.C_alloc ?_ _) | (with_reducible refine Kd.C_drewN ?_ _) | (with_reducible refine Kd.C_drew ?_))); (case side2 => exact (Kd.R_reads' HO764.out).2.1); (case side3 => repeat (first | exact (Kd.R_reads' HO757.out).2.2 | (with_reducible refine Kd.C_alloc ?_ _) | (with_reducible refine Kd.C_drewN ?_ _) | (with_reducible refine Kd.C_drew ?_))); (case side4 => exact (Kd.R_reads' HO757.out).2.1); rintro e w21 ⟨rfl, hb⟩; refine ⟨_, rfl, ?_⟩; have n0_ := Aside0.mk (Kd.R_below (by (with_reducible repeat (first | apply Kd.R_alloc | apply Kd.R_drewN | apply Kd.R_drew)); exact HO753.out) hb); have n1_ := Aside0.mk (Kd.R_below (by (with_reducible repeat (first | apply Kd.R_alloc | apply Kd.R_drewN | apply Kd.R_drew)); exact HO757.out) hb); have n2_ := Aside0.mk (Kd.R_below (by (with_reducible repeat (first | apply Kd.R_alloc | apply Kd.R_drewN | apply Kd.R_drew)); exact HO760.out) hb); have n3_ := Aside0.mk (Kd.R_below (by (with_reducible repeat (first | apply Kd.R_alloc | apply Kd.R_drewN | apply Kd.R_drew)); exact HO764.out) hb); have n4_ := Aside0.mk (below_step (by repeat (first | (with_reducible first | exact HB.out | apply below_alloc | apply pw_below_drewN | apply below_drew1) | exact HB.out)) hb); clear HO753; clear HO757; clear HO760; clear HO764; clear HB; have HO753 := n0_; have HO757 := n1_; have HO760 := n2_; have HO764 := n3_; have HB := n4_; clear n0_ n1_ n2_ n3_ n4_; (try clear hb); (try clear hb2); (try clear hk); (try clear hi)))
        go_meet
        case rel => exact ⟨_, ((t762 != t755)), (by first | rfl | (simp; done) | (simp [*]; done)), H', ⟨by first | omega | exact Nat.le_refl _⟩, ⟨by (with_reducible repeat (first | apply Kd.R_alloc | apply Kd.R_drewN | apply Kd.R_drew)); exact Kd.R_mono HO757.out (fun _ hk => hk.2)⟩, ⟨by (with_reducible repeat (first | apply Kd.R_alloc | apply Kd.R_drewN | apply Kd.R_drew)); exact Kd.R_mono HO760.out (fun _ hk => trivial)⟩, ⟨by (with_reducible repeat (first | apply Kd.R_alloc | apply Kd.R_drewN | apply Kd.R_drew)); exact Kd.R_mono HO764.out (fun _ hk => hk.2)⟩, ⟨by repeat (first | (with_reducible first | exact HB.out | apply below_alloc | apply pw_below_drewN | apply below_drew1) | exact HB.out)⟩⟩
      · replace c18 := Bool.eq_false_iff.mpr c18
        subst c18
        have H1 : (laws_FnExactSolveJigsaw.j0 k l0 a1 a2 t754 t755 t758 t761 t762 true) = some r := by rw [if_neg (show ¬ (false = true) by decide)] at H; exact H
        clear H
        have H := H1
        clear H1
        have H' := Aside0.mk H
        clear H
        obtain ⟨Ao22, co22, eo22⟩ := Kd.R_slice HO764.out
        subst eo22
        obtain ⟨Ao23, co23, eo23⟩ := Kd.R_slice HO757.out
        subst eo23
        go_wp2_with (first | ((with_reducible refine gate_callee (f := 36) rfl ?_); refine goesL_ (some 42) rfl rfl Try.func36 (by kernel_rfl) rfl #[.slice Ao22 t761.length co22, .slice Ao23 t754.length co23] rfl (by (try simp only [List.map_toArray, List.map_cons, List.map_nil]); first | done | rfl | (simp only [List.length_drop, List.length_take]; rfl)) ?_; (with_reducible refine (laws_eqSetS.calls k _ _ t761 _ _ t754 false _ ?side1 ?side2 ?side3 ?side4 A17.out).mono ?_); (case side1 => repeat (first | exact (Kd.R_reads' HO764.out).2.2 | (with_reducible refine Kd.C_alloc ?_ _) | (with_reducible refine Kd.C_drewN ?_ _) | (with_reducible refine Kd.C_drew ?_))); (case side2 => exact (Kd.R_reads' HO764.out).2.1); (case side3 => repeat (first | exact (Kd.R_reads' HO757.out).2.2 | (with_reducible refine Kd.C_alloc ?_ _) | (with_reducible refine Kd.C_drewN ?_ _) | (with_reducible refine Kd.C_drew ?_))); (case side4 => exact (Kd.R_reads' HO757.out).2.1); rintro e w24 ⟨rfl, hb⟩; refine ⟨_, rfl, ?_⟩; have n0_ := Aside0.mk (Kd.R_below (by (with_reducible repeat (first | apply Kd.R_alloc | apply Kd.R_drewN | apply Kd.R_drew)); exact HO753.out) hb); have n1_ := Aside0.mk (Kd.R_below (by (with_reducible repeat (first | apply Kd.R_alloc | apply Kd.R_drewN | apply Kd.R_drew)); exact HO757.out) hb); have n2_ := Aside0.mk (Kd.R_below (by (with_reducible repeat (first | apply Kd.R_alloc | apply Kd.R_drewN | apply Kd.R_drew)); exact HO760.out) hb); have n3_ := Aside0.mk (Kd.R_below (by (with_reducible repeat (first | apply Kd.R_alloc | apply Kd.R_drewN | apply Kd.R_drew)); exact HO764.out) hb); have n4_ := Aside0.mk (below_step (by repeat (first | (with_reducible first | exact HB.out | apply below_alloc | apply pw_below_drewN | apply below_drew1) | exact HB.out)) hb); clear HO753; clear HO757; clear HO760; clear HO764; clear HB; have HO753 := n0_; have HO757 := n1_; have HO760 := n2_; have HO764 := n3_; have HB := n4_; clear n0_ n1_ n2_ n3_ n4_; (try clear hb); (try clear hb2); (try clear hk); (try clear hi)))
        go_meet
        case rel => exact ⟨_, (true), (by first | rfl | (simp; done) | (simp [*]; done)), H', ⟨by first | omega | exact Nat.le_refl _⟩, ⟨by (with_reducible repeat (first | apply Kd.R_alloc | apply Kd.R_drewN | apply Kd.R_drew)); exact Kd.R_mono HO757.out (fun _ hk => hk.2)⟩, ⟨by (with_reducible repeat (first | apply Kd.R_alloc | apply Kd.R_drewN | apply Kd.R_drew)); exact Kd.R_mono HO760.out (fun _ hk => trivial)⟩, ⟨by (with_reducible repeat (first | apply Kd.R_alloc | apply Kd.R_drewN | apply Kd.R_drew)); exact Kd.R_mono HO764.out (fun _ hk => hk.2)⟩, ⟨by repeat (first | (with_reducible first | exact HB.out | apply below_alloc | apply pw_below_drewN | apply below_drew1) | exact HB.out)⟩⟩
    case rest =>
      clear HC16
      try clear c1
      try clear p2
      try clear c3
      try clear c4
      try clear c5
      try clear c5b0
      try clear c10
      try clear c17
      try clear c18
      try clear c19
      obtain ⟨kq, x48_15, rfl, HA, HJ15, HO_8, HO_10, HO_11, HB⟩ := hcut
      cases kq with
      | zero => exact absurd HA.out (by simp [laws_FnExactSolveJigsaw.j0])
      | succ kj15 =>
        have H := HA.out
        clear HA
        simp only [laws_FnExactSolveJigsaw.j0] at H
        by_cases c25 : x48_15 = true
        · subst c25
          have H1 : (some false) = some r := by rw [if_pos rfl] at H; exact H
          clear H
          have H := H1
          clear H1
          obtain rfl := Option.some.inj H
          go_wp2
          go_ret
          exact ⟨by first | rfl | (simp [errW_none, errW_some] <;> rfl) | (simp [*, errW_none, errW_some] <;> rfl), by repeat (first | (with_reducible first | exact HB.out | apply below_alloc | apply pw_below_drewN | apply below_drew1) | exact HB.out)⟩
        · replace c25 := Bool.eq_false_iff.mpr c25
          subst c25
          have H1 : ((laws_toTileS.f kj15 l0).bind fun t766 => ((laws_eqTileS.f kj15 t758 t766).bind fun t769 => (if t769 = true then ((laws_markTileS.f kj15 t758 1).bind fun bt770 => (if bt770.1 < 0 then (laws_FnExactSolveJigsaw.j1 kj15 l0 a1 a2 t754 t755 t761 true) else ((laws_eqSetS.f kj15 t761 t754).bind fun t772 => (if t772 = true then (laws_FnExactSolveJigsaw.j1 kj15 l0 a1 a2 t754 t755 t761 (t762 != t755)) else (laws_FnExactSolveJigsaw.j1 kj15 l0 a1 a2 t754 t755 t761 true))))) else (some false)))) = some r := by rw [if_neg (show ¬ (false = true) by decide)] at H; exact H
          clear H
          have H := H1
          clear H1
          replace H := Option.bind_eq_some_iff.mp H
          obtain ⟨t766, A260, H⟩ := H
          replace H : ((laws_eqTileS.f kj15 t758 t766).bind fun t769 => (if t769 = true then ((laws_markTileS.f kj15 t758 1).bind fun bt770 => (if bt770.1 < 0 then (laws_FnExactSolveJigsaw.j1 kj15 l0 a1 a2 t754 t755 t761 true) else ((laws_eqSetS.f kj15 t761 t754).bind fun t772 => (if t772 = true then (laws_FnExactSolveJigsaw.j1 kj15 l0 a1 a2 t754 t755 t761 (t762 != t755)) else (laws_FnExactSolveJigsaw.j1 kj15 l0 a1 a2 t754 t755 t761 true))))) else (some false))) = some r := H
          have A26 := Aside0.mk A260
          clear A260
          have H0_ := Aside0.mk H
          clear H
          go_wp2_with (first | ((with_reducible refine gate_callee (f := 19) rfl ?_); refine goesL_ (some 51) rfl rfl Try.func19 (by kernel_rfl) rfl #[.slice A0 l0.length c0] rfl (by (try simp only [List.map_toArray, List.map_cons, List.map_nil]); first | done | rfl | (simp only [List.length_drop, List.length_take]; rfl)) ?_; (with_reducible refine (laws_toTileS.calls kj15 _ _ l0 t766 _ ?side1 ?side2 A26.out).mono ?_); (case side1 => repeat (first | exact (Kd.C_below HR0.out HB.out) | (with_reducible refine Kd.C_alloc ?_ _) | (with_reducible refine Kd.C_drewN ?_ _) | (with_reducible refine Kd.C_drew ?_))); (case side2 => exact HC0.out); rintro e w27 ⟨v767, rfl, ho0, hb⟩; refine ⟨_, rfl, ?_⟩; have n0_ := Aside0.mk (Kd.R_below (by (with_reducible repeat (first | apply Kd.R_alloc | apply Kd.R_drewN | apply Kd.R_drew)); exact HO_8.out) hb); have n1_ := Aside0.mk (Kd.R_elder' (by (with_reducible repeat (first | apply Kd.R_alloc | apply Kd.R_drewN | apply Kd.R_drew)); exact HO_10.out) (Kd.R_base ho0) hb); have n2_ := Aside0.mk (Kd.R_below (by (with_reducible repeat (first | apply Kd.R_alloc | apply Kd.R_drewN | apply Kd.R_drew)); exact HO_11.out) hb); have n3_ := Aside0.mk (Kd.R_lower (Kd.R_new' ho0 (Kd.R_lt (by (with_reducible repeat (first | apply Kd.R_alloc | apply Kd.R_drewN | apply Kd.R_drew)); exact HO_10.out))) (below_size (by repeat (first | (with_reducible first | exact HB.out | apply below_alloc | apply pw_below_drewN | apply below_drew1) | exact HB.out)))); have n4_ := Aside0.mk (below_step (by repeat (first | (with_reducible first | exact HB.out | apply below_alloc | apply pw_below_drewN | apply below_drew1) | exact HB.out)) hb); clear HO_8; clear HO_10; clear HO_11; clear HB; have HO_8 := n0_; have HO_10 := n1_; have HO_11 := n2_; have HO768 := n3_; have HB := n4_; clear n0_ n1_ n2_ n3_ n4_; (try clear hb); (try clear hb2); (try clear hk); (try clear hi); (try clear ho0); refine Stop0.out ?_))
          refine Stop0.mk ?_
          have H := H0_.out
          clear H0_
          replace H := Option.bind_eq_some_iff.mp H
          obtain ⟨t769, A280, H⟩ := H
          replace H : (if t769 = true then ((laws_markTileS.f kj15 t758 1).bind fun bt770 => (if bt770.1 < 0 then (laws_FnExactSolveJigsaw.j1 kj15 l0 a1 a2 t754 t755 t761 true) else ((laws_eqSetS.f kj15 t761 t754).bind fun t772 => (if t772 = true then (laws_FnExactSolveJigsaw.j1 kj15 l0 a1 a2 t754 t755 t761 (t762 != t755)) else (laws_FnExactSolveJigsaw.j1 kj15 l0 a1 a2 t754 t755 t761 true))))) else (some false)) = some r := H
          have A28 := Aside0.mk A280
          clear A280
          have H0_ := Aside0.mk H
          clear H
          obtain ⟨Ao29, co29, eo29⟩ := Kd.R_slice HO768.out
          subst eo29
          go_wp2_with (first | ((with_reducible refine gate_callee (f := 21) rfl ?_); refine goesL_ (some 52) rfl rfl Try.func21 (by kernel_rfl) rfl #[.slice Ao14 t758.length co14, .slice Ao29 t766.length co29] rfl (by (try simp only [List.map_toArray, List.map_cons, List.map_nil]); first | done | rfl | (simp only [List.length_drop, List.length_take]; rfl)) ?_; (with_reducible refine (laws_eqTileS.calls kj15 _ _ t758 _ _ t766 t769 _ ?side1 ?side2 ?side3 ?side4 A28.out).mono ?_); (case side1 => repeat (first | exact (Kd.R_reads' HO_10.out).2.2 | (with_reducible refine Kd.C_alloc ?_ _) | (with_reducible refine Kd.C_drewN ?_ _) | (with_reducible refine Kd.C_drew ?_))); (case side2 => exact (Kd.R_reads' HO_10.out).2.1); (case side3 => repeat (first | exact (Kd.R_reads' HO768.out).2.2 | (with_reducible refine Kd.C_alloc ?_ _) | (with_reducible refine Kd.C_drewN ?_ _) | (with_reducible refine Kd.C_drew ?_))); (case side4 => exact (Kd.R_reads' HO768.out).2.1); rintro e w30 ⟨rfl, hb⟩; refine ⟨_, rfl, ?_⟩; have n0_ := Aside0.mk (Kd.R_below (by (with_reducible repeat (first | apply Kd.R_alloc | apply Kd.R_drewN | apply Kd.R_drew)); exact HO_8.out) hb); have n1_ := Aside0.mk (Kd.R_below (by (with_reducible repeat (first | apply Kd.R_alloc | apply Kd.R_drewN | apply Kd.R_drew)); exact HO_10.out) hb); have n2_ := Aside0.mk (Kd.R_below (by (with_reducible repeat (first | apply Kd.R_alloc | apply Kd.R_drewN | apply Kd.R_drew)); exact HO_11.out) hb); have n3_ := Aside0.mk (Kd.R_below (by (with_reducible repeat (first | apply Kd.R_alloc | apply Kd.R_drewN | apply Kd.R_drew)); exact HO768.out) hb); have n4_ := Aside0.mk (below_step (by repeat (first | (with_reducible first | exact HB.out | apply below_alloc | apply pw_below_drewN | apply below_drew1) | exact HB.out)) hb); clear HO_8; clear HO_10; clear HO_11; clear HO768; clear HB; have HO_8 := n0_; have HO_10 := n1_; have HO_11 := n2_; have HO768 := n3_; have HB := n4_; clear n0_ n1_ n2_ n3_ n4_; (try clear hb); (try clear hb2); (try clear hk); (try clear hi); refine Stop0.out ?_))
          refine Stop0.mk ?_
          have H := H0_.out
          clear H0_
          by_cases c31 : t769 = true
          · subst c31
            have H1 : ((laws_markTileS.f kj15 t758 1).bind fun bt770 => (if bt770.1 < 0 then (laws_FnExactSolveJigsaw.j1 kj15 l0 a1 a2 t754 t755 t761 true) else ((laws_eqSetS.f kj15 t761 t754).bind fun t772 => (if t772 = true then (laws_FnExactSolveJigsaw.j1 kj15 l0 a1 a2 t754 t755 t761 (t762 != t755)) else (laws_FnExactSolveJigsaw.j1 kj15 l0 a1 a2 t754 t755 t761 true))))) = some r := by rw [if_pos rfl] at H; exact H
            clear H
            have H := H1
            clear H1
            replace H := Option.bind_eq_some_iff.mp H
            obtain ⟨⟨t770, t771⟩, A320, H⟩ := H
            replace H : (if t770 < 0 then (laws_FnExactSolveJigsaw.j1 kj15 l0 a1 a2 t754 t755 t761 true) else ((laws_eqSetS.f kj15 t761 t754).bind fun t772 => (if t772 = true then (laws_FnExactSolveJigsaw.j1 kj15 l0 a1 a2 t754 t755 t761 (t762 != t755)) else (laws_FnExactSolveJigsaw.j1 kj15 l0 a1 a2 t754 t755 t761 true)))) = some r := H
            have A32 := Aside0.mk A320
            clear A320
            have H0_ := Aside0.mk H
            clear H
            go_wp2_with (first | ((with_reducible refine gate_callee (f := 25) rfl ?_); refine goesL_ (some 56) rfl rfl Try.func25 (by kernel_rfl) rfl #[.slice Ao14 t758.length co14, .int .i64 1] rfl (by (try simp only [List.map_toArray, List.map_cons, List.map_nil]); first | done | rfl | (simp only [List.length_drop, List.length_take]; rfl)) ?_; (with_reducible refine (laws_markTileS.calls kj15 (fun k_ => some k_ = (.slice Ao14 t758.length co14 : Value).ownBlock) (.slice Ao14 t758.length co14) t758 1 t770 t771 w _ ?side1 ?side2 A32.out).mono ?_); (case side1 => repeat (first | (with_reducible first | exact HB.out | apply below_alloc | apply pw_below_drewN | apply below_drew1) | exact HB.out)); (case side2 => exact Kd.R_tight rfl HO_10.out); rintro e w33 ⟨rfl, hy0, hb, hkp⟩; refine ⟨_, rfl, ?_⟩; have n0_ := Aside0.mk (Kd.R_mono (ok' := fun k_ => some k_ ≠ (v763 : Value).ownBlock) (Kd.R_keptB ((Kd.R_apart' HO_8.out (Kd.R_typed HO_10.out) (by decide))) hkp (fun k_ hk_ hs_ => (hk_.2) hs_)) (fun k_ hk_ => hk_.1.1)); have n1_ := Aside0.mk (Kd.R_reok rfl hy0 (fun k_ e_ => HO_10.out.1 k_ e_)); have n2_ := Aside0.mk (Kd.R_mono (ok' := fun k_ => some k_ ≠ (v756 : Value).ownBlock) (Kd.R_keptB ((Kd.R_apart' HO_11.out (Kd.R_typed HO_10.out) (by decide))) hkp (fun k_ hk_ hs_ => (hk_.2) hs_)) (fun k_ hk_ => hk_.1.1)); have n3_ := Aside0.mk (Kd.R_mono (ok' := fun k_ => some k_ ≠ (.slice Ao14 t758.length co14 : Value).ownBlock) (Kd.R_keptB (HO768.out) hkp (fun k_ hk_ hs_ => (hk_.2) hs_)) (fun k_ hk_ => hk_.1.2)); have n4_ := Aside0.mk (hb); clear HO_8; clear HO_10; clear HO_11; clear HO768; clear HB; have HO_8 := n0_; have HO_10 := n1_; have HO_11 := n2_; have HO768 := n3_; have HB := n4_; clear n0_ n1_ n2_ n3_ n4_; (try clear hb); (try clear hkp); (try clear hy0); refine Stop0.out ?_))
            refine Stop0.mk ?_
            have H := H0_.out
            clear H0_
            have HC34 := Aside0.mk H
            clear H
            go_upto_region 14 with (fail)
            go_cut [69] (fun v69 wc => ∃ (kq : Nat) (x69_33 : Bool), v69 = .bool x69_33 ∧ Aside0 (laws_FnExactSolveJigsaw.j1 kq l0 a1 a2 t754 t755 t761 x69_33 = some r) ∧ Aside0 (kq ≤ kj15) ∧ Aside0 (Kd.R k74 74 wc w.heap.size (fun k_ => some k_ ≠ (v763 : Value).ownBlock) v756 t754) ∧ Aside0 (Kd.R k74 74 wc w.heap.size (fun k_ => some k_ ≠ (v756 : Value).ownBlock) v763 t761) ∧ Aside0 (Below w.heap.size w wc))
            case first =>
              have H := HC34.out
              clear HC34
              by_cases c35 : t770 < 0
              · rw [if_pos c35] at H
                have c35b0 : decide (t770 < 0) = true := decide_eq_true c35
                clear c35
                (first | rw [c35b0] | (simp only [i64_w, i32_w]; rw [c35b0]) | skip)
                have H' := Aside0.mk H
                clear H
                go_wp2
                go_meet
                case rel => exact ⟨_, (true), (by first | rfl | (simp; done) | (simp [*]; done)), H', ⟨by have := HJ15.out; first | omega | exact Nat.le_refl _⟩, ⟨by (with_reducible repeat (first | apply Kd.R_alloc | apply Kd.R_drewN | apply Kd.R_drew)); exact HO_8.out⟩, ⟨by (with_reducible repeat (first | apply Kd.R_alloc | apply Kd.R_drewN | apply Kd.R_drew)); exact HO_11.out⟩, ⟨by repeat (first | (with_reducible first | exact HB.out | apply below_alloc | apply pw_below_drewN | apply below_drew1) | exact HB.out)⟩⟩
              · rw [if_neg c35] at H
                have c35b0 : decide (t770 < 0) = false := decide_eq_false c35
                clear c35
                (first | rw [c35b0] | (simp only [i64_w, i32_w]; rw [c35b0]) | skip)
                replace H := Option.bind_eq_some_iff.mp H
                obtain ⟨t772, A360, H⟩ := H
                replace H : (if t772 = true then (laws_FnExactSolveJigsaw.j1 kj15 l0 a1 a2 t754 t755 t761 (t762 != t755)) else (laws_FnExactSolveJigsaw.j1 kj15 l0 a1 a2 t754 t755 t761 true)) = some r := H
                have A36 := Aside0.mk A360
                clear A360
                have H0_ := Aside0.mk H
                clear H
                obtain ⟨Ao37, co37, eo37⟩ := Kd.R_slice HO_11.out
                subst eo37
                obtain ⟨Ao38, co38, eo38⟩ := Kd.R_slice HO_8.out
                subst eo38
                go_wp2_with (first | (go_at_call 36; (with_reducible refine (laws_eqSetS.calls kj15 _ _ t761 _ _ t754 t772 _ ?side1 ?side2 ?side3 ?side4 A36.out).mono ?_); (case side1 => repeat (first | exact (Kd.R_reads' HO_11.out).2.2 | (with_reducible refine Kd.C_alloc ?_ _) | (with_reducible refine Kd.C_drewN ?_ _) | (with_reducible refine Kd.C_drew ?_))); (case side2 => exact (Kd.R_reads' HO_11.out).2.1); (case side3 => repeat (first | exact (Kd.R_reads' HO_8.out).2.2 | (with_reducible refine Kd.C_alloc ?_ _) | (with_reducible refine Kd.C_drewN ?_ _) | (with_reducible refine Kd.C_drew ?_))); (case side4 => exact (Kd.R_reads' HO_8.out).2.1); rintro e w39 ⟨rfl, hb⟩; have n0_ := Aside0.mk (Kd.R_below (by (with_reducible repeat (first | apply Kd.R_alloc | apply Kd.R_drewN | apply Kd.R_drew)); exact HO_8.out) hb); have n1_ := Aside0.mk (Kd.R_below (by (with_reducible repeat (first | apply Kd.R_alloc | apply Kd.R_drewN | apply Kd.R_drew)); exact HO_10.out) hb); have n2_ := Aside0.mk (Kd.R_below (by (with_reducible repeat (first | apply Kd.R_alloc | apply Kd.R_drewN | apply Kd.R_drew)); exact HO_11.out) hb); have n3_ := Aside0.mk (Kd.R_below (by (with_reducible repeat (first | apply Kd.R_alloc | apply Kd.R_drewN | apply Kd.R_drew)); exact HO768.out) hb); have n4_ := Aside0.mk (below_step (by repeat (first | (with_reducible first | exact HB.out | apply below_alloc | apply pw_below_drewN | apply below_drew1) | exact HB.out)) hb); clear HO_8; clear HO_10; clear HO_11; clear HO768; clear HB; have HO_8 := n0_; have HO_10 := n1_; have HO_11 := n2_; have HO768 := n3_; have HB := n4_; clear n0_ n1_ n2_ n3_ n4_; (try clear hb); (try clear hb2); (try clear hk); (try clear hi); refine Stop0.out ?_))
                refine Stop0.mk ?_
                have H := H0_.out
                clear H0_
                by_cases c40 : t772 = true
                · subst c40
                  have H1 : (laws_FnExactSolveJigsaw.j1 kj15 l0 a1 a2 t754 t755 t761 (t762 != t755)) = some r := by rw [if_pos rfl] at H; exact H
                  clear H
                  have H := H1
                  clear H1
                  have H' := Aside0.mk H
                  clear H
                  go_wp2
                  go_meet
                  case rel => exact ⟨_, ((t762 != t755)), (by first | rfl | (simp; done) | (simp [*]; done)), H', ⟨by have := HJ15.out; first | omega | exact Nat.le_refl _⟩, ⟨by (with_reducible repeat (first | apply Kd.R_alloc | apply Kd.R_drewN | apply Kd.R_drew)); exact HO_8.out⟩, ⟨by (with_reducible repeat (first | apply Kd.R_alloc | apply Kd.R_drewN | apply Kd.R_drew)); exact HO_11.out⟩, ⟨by repeat (first | (with_reducible first | exact HB.out | apply below_alloc | apply pw_below_drewN | apply below_drew1) | exact HB.out)⟩⟩
                · replace c40 := Bool.eq_false_iff.mpr c40
                  subst c40
                  have H1 : (laws_FnExactSolveJigsaw.j1 kj15 l0 a1 a2 t754 t755 t761 true) = some r := by rw [if_neg (show ¬ (false = true) by decide)] at H; exact H
                  clear H
                  have H := H1
                  clear H1
                  have H' := Aside0.mk H
                  clear H
                  go_wp2
                  go_meet
                  case rel => exact ⟨_, (true), (by first | rfl | (simp; done) | (simp [*]; done)), H', ⟨by have := HJ15.out; first | omega | exact Nat.le_refl _⟩, ⟨by (with_reducible repeat (first | apply Kd.R_alloc | apply Kd.R_drewN | apply Kd.R_drew)); exact HO_8.out⟩, ⟨by (with_reducible repeat (first | apply Kd.R_alloc | apply Kd.R_drewN | apply Kd.R_drew)); exact HO_11.out⟩, ⟨by repeat (first | (with_reducible first | exact HB.out | apply below_alloc | apply pw_below_drewN | apply below_drew1) | exact HB.out)⟩⟩
            case rest =>
              clear HC34
              try clear c1
              try clear c2
              try clear p2
              try clear c3
              try clear c4
              try clear c5
              try clear c5b0
              try clear c10
              try clear c17
              try clear c18
              try clear c19
              try clear c21
              try clear c25
              try clear c31
              try clear c35
              try clear c35b0
              try clear c36
              try clear c40
              try clear p2
              obtain ⟨kq, x69_33, rfl, HA, HJ33, HO_8, HO_11, HB⟩ := hcut
              cases kq with
              | zero => exact absurd HA.out (by simp [laws_FnExactSolveJigsaw.j1])
              | succ kj33 =>
                have H := HA.out
                clear HA
                simp only [laws_FnExactSolveJigsaw.j1] at H
                by_cases c41 : x69_33 = true
                · subst c41
                  have H1 : (some false) = some r := by rw [if_pos rfl] at H; exact H
                  clear H
                  have H := H1
                  clear H1
                  obtain rfl := Option.some.inj H
                  go_wp2
                  go_ret
                  exact ⟨by first | rfl | (simp [errW_none, errW_some] <;> rfl) | (simp [*, errW_none, errW_some] <;> rfl), by repeat (first | (with_reducible first | exact HB.out | apply below_alloc | apply pw_below_drewN | apply below_drew1) | exact HB.out)⟩
                · replace c41 := Bool.eq_false_iff.mpr c41
                  subst c41
                  have H1 : ((laws_markSetS.f kj33 t761 1).bind fun bt773 => ((laws_heldSetS.f kj33 bt773.2 1).bind fun t775 => (if t775 < 0 then (some false) else (if t775 = bt773.1 then ((laws_toTileS.f kj33 l0).bind fun t776 => ((impl_SolveJigsaw.f kj33 t776 a1 a2).bind fun bt779 => ((laws_eqSetS.f kj33 bt779.1 t754).bind fun t783 => (if t783 = true then (laws_FnExactSolveJigsaw.j2 kj33 bt773.2 bt773.1 (bt779.2 != t755)) else (laws_FnExactSolveJigsaw.j2 kj33 bt773.2 bt773.1 true))))) else (some false))))) = some r := by rw [if_neg (show ¬ (false = true) by decide)] at H; exact H
                  clear H
                  have H := H1
                  clear H1
                  replace H := Option.bind_eq_some_iff.mp H
                  obtain ⟨⟨t773, t774⟩, A420, H⟩ := H
                  replace H : ((laws_heldSetS.f kj33 t774 1).bind fun t775 => (if t775 < 0 then (some false) else (if t775 = t773 then ((laws_toTileS.f kj33 l0).bind fun t776 => ((impl_SolveJigsaw.f kj33 t776 a1 a2).bind fun bt779 => ((laws_eqSetS.f kj33 bt779.1 t754).bind fun t783 => (if t783 = true then (laws_FnExactSolveJigsaw.j2 kj33 t774 t773 (bt779.2 != t755)) else (laws_FnExactSolveJigsaw.j2 kj33 t774 t773 true))))) else (some false)))) = some r := H
                  have A42 := Aside0.mk A420
                  clear A420
                  have H0_ := Aside0.mk H
                  clear H
                  obtain ⟨Ao43, co43, eo43⟩ := Kd.R_slice HO_11.out
                  subst eo43
                  go_wp2_with (first | ((with_reducible refine gate_callee (f := 41) rfl ?_); refine goesL_ (some 72) rfl rfl Try.func41 (by kernel_rfl) rfl #[.slice Ao43 t761.length co43, .int .i64 1] rfl (by (try simp only [List.map_toArray, List.map_cons, List.map_nil]); first | done | rfl | (simp only [List.length_drop, List.length_take]; rfl)) ?_; (with_reducible refine (laws_markSetS.calls kj33 (fun k_ => some k_ = (.slice Ao43 t761.length co43 : Value).ownBlock) (.slice Ao43 t761.length co43) t761 1 t773 t774 w _ ?side1 ?side2 A42.out).mono ?_); (case side1 => repeat (first | (with_reducible first | exact HB.out | apply below_alloc | apply pw_below_drewN | apply below_drew1) | exact HB.out)); (case side2 => exact Kd.R_tight rfl HO_11.out); rintro e w44 ⟨rfl, hy0, hb, hkp⟩; refine ⟨_, rfl, ?_⟩; have n0_ := Aside0.mk (Kd.R_mono (ok' := fun k_ => some k_ ≠ (.slice Ao43 t761.length co43 : Value).ownBlock) (Kd.R_keptB (HO_8.out) hkp (fun k_ hk_ hs_ => (hk_) hs_)) (fun k_ hk_ => hk_.1)); have n1_ := Aside0.mk (Kd.R_reok rfl hy0 (fun k_ e_ => HO_11.out.1 k_ e_)); have n2_ := Aside0.mk (hb); clear HO_8; clear HO_11; clear HB; have HO_8 := n0_; have HO_11 := n1_; have HB := n2_; clear n0_ n1_ n2_; (try clear hb); (try clear hkp); (try clear hy0); refine Stop0.out ?_))
                  refine Stop0.mk ?_
                  have H := H0_.out
                  clear H0_
                  replace H := Option.bind_eq_some_iff.mp H
                  obtain ⟨t775, A450, H⟩ := H
                  replace H : (if t775 < 0 then (some false) else (if t775 = t773 then ((laws_toTileS.f kj33 l0).bind fun t776 => ((impl_SolveJigsaw.f kj33 t776 a1 a2).bind fun bt779 => ((laws_eqSetS.f kj33 bt779.1 t754).bind fun t783 => (if t783 = true then (laws_FnExactSolveJigsaw.j2 kj33 t774 t773 (bt779.2 != t755)) else (laws_FnExactSolveJigsaw.j2 kj33 t774 t773 true))))) else (some false))) = some r := H
                  have A45 := Aside0.mk A450
                  clear A450
                  have H0_ := Aside0.mk H
                  clear H
                  go_wp2_with (first | ((with_reducible refine gate_callee (f := 42) rfl ?_); refine goesL_ (some 75) rfl rfl Try.func42 (by kernel_rfl) rfl #[.slice Ao43 t774.length co43, .int .i64 1] rfl (by (try simp only [List.map_toArray, List.map_cons, List.map_nil]); first | done | (rw [show t774.length = t761.length from (Kd.R_reads' HO_11.out).1.symm] <;> rfl) | rfl | (simp only [List.length_drop, List.length_take]; rfl)) ?_; (with_reducible refine (laws_heldSetS.calls kj33 _ _ t774 1 t775 _ ?side1 ?side2 A45.out).mono ?_); (case side1 => repeat (first | exact (Kd.R_reads' HO_11.out).2.2 | (with_reducible refine Kd.C_alloc ?_ _) | (with_reducible refine Kd.C_drewN ?_ _) | (with_reducible refine Kd.C_drew ?_))); (case side2 => rw [show t774.length = t761.length from (Kd.R_reads' HO_11.out).1.symm]; exact (Kd.R_reads' HO_11.out).2.1); rintro e w' ⟨rfl, ⟨nd, rfl⟩⟩; refine ⟨_, rfl, ?_⟩; refine Stop0.out ?_))
                  refine Stop0.mk ?_
                  have H := H0_.out
                  clear H0_
                  by_cases c46 : t775 < 0
                  · rw [if_pos c46] at H
                    have c46b0 : decide (t775 < 0) = true := decide_eq_true c46
                    clear c46
                    obtain rfl := Option.some.inj H
                    go_wp2
                    go_ret
                    exact ⟨by first | rfl | (simp [errW_none, errW_some] <;> rfl) | (simp [*, errW_none, errW_some] <;> rfl), by repeat (first | (with_reducible first | exact HB.out | apply below_alloc | apply pw_below_drewN | apply below_drew1) | exact HB.out)⟩
                  · rw [if_neg c46] at H
                    have c46b0 : decide (t775 < 0) = false := decide_eq_false c46
                    clear c46
                    by_cases c47 : t775 = t773
                    · rw [if_pos c47] at H
                      have c47b0 : (t775 == t773) = true := beq_iff_eq.mpr c47
                      have c47b1 : (t775 != t773) = false := bne_eq_false_iff_eq.mpr c47
                      clear c47
                      replace H := Option.bind_eq_some_iff.mp H
                      obtain ⟨t776, A480, H⟩ := H
                      replace H : ((impl_SolveJigsaw.f kj33 t776 a1 a2).bind fun bt779 => ((laws_eqSetS.f kj33 bt779.1 t754).bind fun t783 => (if t783 = true then (laws_FnExactSolveJigsaw.j2 kj33 t774 t773 (bt779.2 != t755)) else (laws_FnExactSolveJigsaw.j2 kj33 t774 t773 true)))) = some r := H
                      have A48 := Aside0.mk A480
                      clear A480
                      have H0_ := Aside0.mk H
                      clear H
                      go_wp2_with (first | ((with_reducible refine gate_callee (f := 19) rfl ?_); refine goesL_ (some 83) rfl rfl Try.func19 (by kernel_rfl) rfl #[.slice A0 l0.length c0] rfl (by (try simp only [List.map_toArray, List.map_cons, List.map_nil]); first | done | rfl | (simp only [List.length_drop, List.length_take]; rfl)) ?_; (with_reducible refine (laws_toTileS.calls kj33 _ _ l0 t776 _ ?side1 ?side2 A48.out).mono ?_); (case side1 => repeat (first | exact (Kd.C_below HR0.out HB.out) | (with_reducible refine Kd.C_alloc ?_ _) | (with_reducible refine Kd.C_drewN ?_ _) | (with_reducible refine Kd.C_drew ?_))); (case side2 => exact HC0.out); rintro e w49 ⟨v777, rfl, ho0, hb⟩; refine ⟨_, rfl, ?_⟩; have n0_ := Aside0.mk (Kd.R_below (by (with_reducible repeat (first | apply Kd.R_alloc | apply Kd.R_drewN | apply Kd.R_drew)); exact HO_8.out) hb); have n1_ := Aside0.mk (Kd.R_below (by (with_reducible repeat (first | apply Kd.R_alloc | apply Kd.R_drewN | apply Kd.R_drew)); exact HO_11.out) hb); have n2_ := Aside0.mk (Kd.R_lower ho0 (below_size (by repeat (first | (with_reducible first | exact HB.out | apply below_alloc | apply pw_below_drewN | apply below_drew1) | exact HB.out)))); have n3_ := Aside0.mk (below_step (by repeat (first | (with_reducible first | exact HB.out | apply below_alloc | apply pw_below_drewN | apply below_drew1) | exact HB.out)) hb); clear HO_8; clear HO_11; clear HB; have HO_8 := n0_; have HO_11 := n1_; have HO778 := n2_; have HB := n3_; clear n0_ n1_ n2_ n3_; (try clear hb); (try clear hb2); (try clear hk); (try clear hi); (try clear ho0); refine Stop0.out ?_))
                      refine Stop0.mk ?_
                      have H := H0_.out
                      clear H0_
                      replace H := Option.bind_eq_some_iff.mp H
                      obtain ⟨⟨t779, t780⟩, A500, H⟩ := H
                      replace H : ((laws_eqSetS.f kj33 t779 t754).bind fun t783 => (if t783 = true then (laws_FnExactSolveJigsaw.j2 kj33 t774 t773 (t780 != t755)) else (laws_FnExactSolveJigsaw.j2 kj33 t774 t773 true))) = some r := H
                      have A50 := Aside0.mk A500
                      clear A500
                      have H0_ := Aside0.mk H
                      clear H
                      obtain ⟨Ao51, co51, eo51⟩ := Kd.R_slice HO778.out
                      subst eo51
                      go_wp2_with (first | ((with_reducible refine gate_callee (f := 44) rfl ?_); refine goesL_ (some 86) rfl rfl Try.func44 (by kernel_rfl) rfl #[.slice Ao51 t776.length co51, .int .i64 a1, .int .i64 a2] rfl (by (try simp only [List.map_toArray, List.map_cons, List.map_nil]); first | done | rfl | (simp only [List.length_drop, List.length_take]; rfl)) ?_; (with_reducible refine (impl_SolveJigsaw.calls kj33 _ _ t776 a1 a2 t779 t780 _ ?side1 ?side2 A50.out).mono ?_); (case side1 => repeat (first | exact (Kd.R_reads' HO778.out).2.2 | (with_reducible refine Kd.C_alloc ?_ _) | (with_reducible refine Kd.C_drewN ?_ _) | (with_reducible refine Kd.C_drew ?_))); (case side2 => exact (Kd.R_reads' HO778.out).2.1); rintro e w52 ⟨v781, rfl, ho0, hb⟩; refine ⟨_, rfl, ?_⟩; have n0_ := Aside0.mk (Kd.R_elder' (by (with_reducible repeat (first | apply Kd.R_alloc | apply Kd.R_drewN | apply Kd.R_drew)); exact HO_8.out) (Kd.R_base ho0) hb); have n1_ := Aside0.mk (Kd.R_elder' (by (with_reducible repeat (first | apply Kd.R_alloc | apply Kd.R_drewN | apply Kd.R_drew)); exact HO_11.out) (Kd.R_base ho0) hb); have n2_ := Aside0.mk (Kd.R_below (by (with_reducible repeat (first | apply Kd.R_alloc | apply Kd.R_drewN | apply Kd.R_drew)); exact HO778.out) hb); have n3_ := Aside0.mk (Kd.R_lower (Kd.R_new' (Kd.R_new' ho0 (Kd.R_lt (by (with_reducible repeat (first | apply Kd.R_alloc | apply Kd.R_drewN | apply Kd.R_drew)); exact HO_8.out))) (Kd.R_lt (by (with_reducible repeat (first | apply Kd.R_alloc | apply Kd.R_drewN | apply Kd.R_drew)); exact HO_11.out))) (below_size (by repeat (first | (with_reducible first | exact HB.out | apply below_alloc | apply pw_below_drewN | apply below_drew1) | exact HB.out)))); have n4_ := Aside0.mk (below_step (by repeat (first | (with_reducible first | exact HB.out | apply below_alloc | apply pw_below_drewN | apply below_drew1) | exact HB.out)) hb); clear HO_8; clear HO_11; clear HO778; clear HB; have HO_8 := n0_; have HO_11 := n1_; have HO778 := n2_; have HO782 := n3_; have HB := n4_; clear n0_ n1_ n2_ n3_ n4_; (try clear hb); (try clear hb2); (try clear hk); (try clear hi); (try clear ho0); refine Stop0.out ?_))
                      refine Stop0.mk ?_
                      have H := H0_.out
                      clear H0_
                      have HC53 := Aside0.mk H
                      clear H
                      go_upto_region 25 with (fail)
                      go_cut [97] (fun v97 wc => ∃ (kq : Nat) (x97_52 : Bool), v97 = .bool x97_52 ∧ Aside0 (laws_FnExactSolveJigsaw.j2 kq t774 t773 x97_52 = some r) ∧ Aside0 (kq ≤ kj33) ∧ Aside0 (Kd.R k74 74 wc w.heap.size (fun _ => True) (.slice Ao43 t761.length co43) t774) ∧ Aside0 (Below w.heap.size w wc))
                      case first =>
                        have H := HC53.out
                        clear HC53
                        replace H := Option.bind_eq_some_iff.mp H
                        obtain ⟨t783, A540, H⟩ := H
                        replace H : (if t783 = true then (laws_FnExactSolveJigsaw.j2 kj33 t774 t773 (t780 != t755)) else (laws_FnExactSolveJigsaw.j2 kj33 t774 t773 true)) = some r := H
                        have A54 := Aside0.mk A540
                        clear A540
                        by_cases c55 : t783 = true
                        · subst c55
                          have H1 : (laws_FnExactSolveJigsaw.j2 kj33 t774 t773 (t780 != t755)) = some r := by rw [if_pos rfl] at H; exact H
                          clear H
                          have H := H1
                          clear H1
                          have H' := Aside0.mk H
                          clear H
                          obtain ⟨Ao56, co56, eo56⟩ := Kd.R_slice HO782.out
                          subst eo56
                          obtain ⟨Ao57, co57, eo57⟩ := Kd.R_slice HO_8.out
                          subst eo57
                          go_wp2_with (first | ((with_reducible refine gate_callee (f := 36) rfl ?_); refine goesL_ (some 91) rfl rfl Try.func36 (by kernel_rfl) rfl #[.slice Ao56 t779.length co56, .slice Ao57 t754.length co57] rfl (by (try simp only [List.map_toArray, List.map_cons, List.map_nil]); first | done | rfl | (simp only [List.length_drop, List.length_take]; rfl)) ?_; (with_reducible refine (laws_eqSetS.calls kj33 _ _ t779 _ _ t754 true _ ?side1 ?side2 ?side3 ?side4 A54.out).mono ?_); (case side1 => repeat (first | exact (Kd.R_reads' HO782.out).2.2 | (with_reducible refine Kd.C_alloc ?_ _) | (with_reducible refine Kd.C_drewN ?_ _) | (with_reducible refine Kd.C_drew ?_))); (case side2 => exact (Kd.R_reads' HO782.out).2.1); (case side3 => repeat (first | exact (Kd.R_reads' HO_8.out).2.2 | (with_reducible refine Kd.C_alloc ?_ _) | (with_reducible refine Kd.C_drewN ?_ _) | (with_reducible refine Kd.C_drew ?_))); (case side4 => exact (Kd.R_reads' HO_8.out).2.1); rintro e w58 ⟨rfl, hb⟩; refine ⟨_, rfl, ?_⟩; have n0_ := Aside0.mk (Kd.R_below (by (with_reducible repeat (first | apply Kd.R_alloc | apply Kd.R_drewN | apply Kd.R_drew)); exact HO_8.out) hb); have n1_ := Aside0.mk (Kd.R_below (by (with_reducible repeat (first | apply Kd.R_alloc | apply Kd.R_drewN | apply Kd.R_drew)); exact HO_11.out) hb); have n2_ := Aside0.mk (Kd.R_below (by (with_reducible repeat (first | apply Kd.R_alloc | apply Kd.R_drewN | apply Kd.R_drew)); exact HO778.out) hb); have n3_ := Aside0.mk (Kd.R_below (by (with_reducible repeat (first | apply Kd.R_alloc | apply Kd.R_drewN | apply Kd.R_drew)); exact HO782.out) hb); have n4_ := Aside0.mk (below_step (by repeat (first | (with_reducible first | exact HB.out | apply below_alloc | apply pw_below_drewN | apply below_drew1) | exact HB.out)) hb); clear HO_8; clear HO_11; clear HO778; clear HO782; clear HB; have HO_8 := n0_; have HO_11 := n1_; have HO778 := n2_; have HO782 := n3_; have HB := n4_; clear n0_ n1_ n2_ n3_ n4_; (try clear hb); (try clear hb2); (try clear hk); (try clear hi)))
                          go_meet
                          case rel => exact ⟨_, ((t780 != t755)), (by first | rfl | (simp; done) | (simp [*]; done)), H', ⟨by have := HJ15.out; have := HJ33.out; first | omega | exact Nat.le_refl _⟩, ⟨by (with_reducible repeat (first | apply Kd.R_alloc | apply Kd.R_drewN | apply Kd.R_drew)); exact Kd.R_mono HO_11.out (fun _ hk => trivial)⟩, ⟨by repeat (first | (with_reducible first | exact HB.out | apply below_alloc | apply pw_below_drewN | apply below_drew1) | exact HB.out)⟩⟩
                        · replace c55 := Bool.eq_false_iff.mpr c55
                          subst c55
                          have H1 : (laws_FnExactSolveJigsaw.j2 kj33 t774 t773 true) = some r := by rw [if_neg (show ¬ (false = true) by decide)] at H; exact H
                          clear H
                          have H := H1
                          clear H1
                          have H' := Aside0.mk H
                          clear H
                          obtain ⟨Ao59, co59, eo59⟩ := Kd.R_slice HO782.out
                          subst eo59
                          obtain ⟨Ao60, co60, eo60⟩ := Kd.R_slice HO_8.out
                          subst eo60
                          go_wp2_with (first | ((with_reducible refine gate_callee (f := 36) rfl ?_); refine goesL_ (some 91) rfl rfl Try.func36 (by kernel_rfl) rfl #[.slice Ao59 t779.length co59, .slice Ao60 t754.length co60] rfl (by (try simp only [List.map_toArray, List.map_cons, List.map_nil]); first | done | rfl | (simp only [List.length_drop, List.length_take]; rfl)) ?_; (with_reducible refine (laws_eqSetS.calls kj33 _ _ t779 _ _ t754 false _ ?side1 ?side2 ?side3 ?side4 A54.out).mono ?_); (case side1 => repeat (first | exact (Kd.R_reads' HO782.out).2.2 | (with_reducible refine Kd.C_alloc ?_ _) | (with_reducible refine Kd.C_drewN ?_ _) | (with_reducible refine Kd.C_drew ?_))); (case side2 => exact (Kd.R_reads' HO782.out).2.1); (case side3 => repeat (first | exact (Kd.R_reads' HO_8.out).2.2 | (with_reducible refine Kd.C_alloc ?_ _) | (with_reducible refine Kd.C_drewN ?_ _) | (with_reducible refine Kd.C_drew ?_))); (case side4 => exact (Kd.R_reads' HO_8.out).2.1); rintro e w61 ⟨rfl, hb⟩; refine ⟨_, rfl, ?_⟩; have n0_ := Aside0.mk (Kd.R_below (by (with_reducible repeat (first | apply Kd.R_alloc | apply Kd.R_drewN | apply Kd.R_drew)); exact HO_8.out) hb); have n1_ := Aside0.mk (Kd.R_below (by (with_reducible repeat (first | apply Kd.R_alloc | apply Kd.R_drewN | apply Kd.R_drew)); exact HO_11.out) hb); have n2_ := Aside0.mk (Kd.R_below (by (with_reducible repeat (first | apply Kd.R_alloc | apply Kd.R_drewN | apply Kd.R_drew)); exact HO778.out) hb); have n3_ := Aside0.mk (Kd.R_below (by (with_reducible repeat (first | apply Kd.R_alloc | apply Kd.R_drewN | apply Kd.R_drew)); exact HO782.out) hb); have n4_ := Aside0.mk (below_step (by repeat (first | (with_reducible first | exact HB.out | apply below_alloc | apply pw_below_drewN | apply below_drew1) | exact HB.out)) hb); clear HO_8; clear HO_11; clear HO778; clear HO782; clear HB; have HO_8 := n0_; have HO_11 := n1_; have HO778 := n2_; have HO782 := n3_; have HB := n4_; clear n0_ n1_ n2_ n3_ n4_; (try clear hb); (try clear hb2); (try clear hk); (try clear hi)))
                          go_meet
                          case rel => exact ⟨_, (true), (by first | rfl | (simp; done) | (simp [*]; done)), H', ⟨by have := HJ15.out; have := HJ33.out; first | omega | exact Nat.le_refl _⟩, ⟨by (with_reducible repeat (first | apply Kd.R_alloc | apply Kd.R_drewN | apply Kd.R_drew)); exact Kd.R_mono HO_11.out (fun _ hk => trivial)⟩, ⟨by repeat (first | (with_reducible first | exact HB.out | apply below_alloc | apply pw_below_drewN | apply below_drew1) | exact HB.out)⟩⟩
                      case rest =>
                        clear HC53
                        try clear c1
                        try clear c2
                        try clear p2
                        try clear c3
                        try clear c4
                        try clear c5
                        try clear c5b0
                        try clear c10
                        try clear c17
                        try clear c18
                        try clear c19
                        try clear c21
                        try clear c25
                        try clear c31
                        try clear c35
                        try clear c35b0
                        try clear c36
                        try clear c40
                        try clear c41
                        try clear c42
                        try clear c43
                        try clear c44
                        try clear c46
                        try clear c46b0
                        try clear c47
                        try clear c47b0
                        try clear c47b1
                        try clear c55
                        try clear p2
                        obtain ⟨kq, x97_52, rfl, HA, HJ52, HO_11, HB⟩ := hcut
                        have hl11_52 := (Kd.R_reads' HO_11.out).1
                        rw [hl11_52] at HO_11
                        (try simp only [hl11_52])
                        cases kq with
                        | zero => exact absurd HA.out (by simp [laws_FnExactSolveJigsaw.j2])
                        | succ kj52 =>
                          have H := HA.out
                          clear HA
                          simp only [laws_FnExactSolveJigsaw.j2] at H
                          by_cases c62 : x97_52 = true
                          · subst c62
                            have H1 : (some false) = some r := by rw [if_pos rfl] at H; exact H
                            clear H
                            have H := H1
                            clear H1
                            obtain rfl := Option.some.inj H
                            go_wp2
                            go_ret
                            exact ⟨by first | rfl | (simp [errW_none, errW_some] <;> rfl) | (simp [*, errW_none, errW_some] <;> rfl), by repeat (first | (with_reducible first | exact HB.out | apply below_alloc | apply pw_below_drewN | apply below_drew1) | exact HB.out)⟩
                          · replace c62 := Bool.eq_false_iff.mpr c62
                            subst c62
                            have H1 : ((laws_heldSetS.f kj52 t774 1).bind fun t784 => (if t784 < 0 then (some false) else (if t784 = t773 then (some true) else (some false)))) = some r := by rw [if_neg (show ¬ (false = true) by decide)] at H; exact H
                            clear H
                            have H := H1
                            clear H1
                            replace H := Option.bind_eq_some_iff.mp H
                            obtain ⟨t784, A630, H⟩ := H
                            replace H : (if t784 < 0 then (some false) else (if t784 = t773 then (some true) else (some false))) = some r := H
                            have A63 := Aside0.mk A630
                            clear A630
                            have H0_ := Aside0.mk H
                            clear H
                            go_wp2_with (first | ((with_reducible refine gate_callee (f := 42) rfl ?_); refine goesL_ (some 100) rfl rfl Try.func42 (by kernel_rfl) rfl #[.slice Ao43 t774.length co43, .int .i64 1] rfl (by (try simp only [List.map_toArray, List.map_cons, List.map_nil]); first | done | rfl | (simp only [List.length_drop, List.length_take]; rfl)) ?_; (with_reducible refine (laws_heldSetS.calls kj52 _ _ t774 1 t784 _ ?side1 ?side2 A63.out).mono ?_); (case side1 => repeat (first | exact (Kd.R_reads' HO_11.out).2.2 | (with_reducible refine Kd.C_alloc ?_ _) | (with_reducible refine Kd.C_drewN ?_ _) | (with_reducible refine Kd.C_drew ?_))); (case side2 => exact (Kd.R_reads' HO_11.out).2.1); rintro e w' ⟨rfl, ⟨nd, rfl⟩⟩; refine ⟨_, rfl, ?_⟩; refine Stop0.out ?_))
                            refine Stop0.mk ?_
                            have H := H0_.out
                            clear H0_
                            by_cases c64 : t784 < 0
                            · rw [if_pos c64] at H
                              have c64b0 : decide (t784 < 0) = true := decide_eq_true c64
                              clear c64
                              obtain rfl := Option.some.inj H
                              go_wp2
                              go_ret
                              exact ⟨by first | rfl | (simp [errW_none, errW_some] <;> rfl) | (simp [*, errW_none, errW_some] <;> rfl), by repeat (first | (with_reducible first | exact HB.out | apply below_alloc | apply pw_below_drewN | apply below_drew1) | exact HB.out)⟩
                            · rw [if_neg c64] at H
                              have c64b0 : decide (t784 < 0) = false := decide_eq_false c64
                              clear c64
                              by_cases c65 : t784 = t773
                              · rw [if_pos c65] at H
                                have c65b0 : (t784 == t773) = true := beq_iff_eq.mpr c65
                                have c65b1 : (t784 != t773) = false := bne_eq_false_iff_eq.mpr c65
                                clear c65
                                obtain rfl := Option.some.inj H
                                go_wp2
                                go_ret
                                exact ⟨by first | rfl | (simp [errW_none, errW_some] <;> rfl) | (simp [*, errW_none, errW_some] <;> rfl), by repeat (first | (with_reducible first | exact HB.out | apply below_alloc | apply pw_below_drewN | apply below_drew1) | exact HB.out)⟩
                              · rw [if_neg c65] at H
                                have c65b0 : (t784 == t773) = false := beq_eq_false_iff_ne.mpr c65
                                have c65b1 : (t784 != t773) = true := bne_iff_ne.mpr c65
                                obtain rfl := Option.some.inj H
                                go_wp2
                                go_ret
                                exact ⟨by first | rfl | (simp [errW_none, errW_some] <;> rfl) | (simp [*, errW_none, errW_some] <;> rfl), by repeat (first | (with_reducible first | exact HB.out | apply below_alloc | apply pw_below_drewN | apply below_drew1) | exact HB.out)⟩
                    · rw [if_neg c47] at H
                      have c47b0 : (t775 == t773) = false := beq_eq_false_iff_ne.mpr c47
                      have c47b1 : (t775 != t773) = true := bne_iff_ne.mpr c47
                      obtain rfl := Option.some.inj H
                      go_wp2
                      go_ret
                      exact ⟨by first | rfl | (simp [errW_none, errW_some] <;> rfl) | (simp [*, errW_none, errW_some] <;> rfl), by repeat (first | (with_reducible first | exact HB.out | apply below_alloc | apply pw_below_drewN | apply below_drew1) | exact HB.out)⟩
          · replace c31 := Bool.eq_false_iff.mpr c31
            subst c31
            have H1 : (some false) = some r := by rw [if_neg (show ¬ (false = true) by decide)] at H; exact H
            clear H
            have H := H1
            clear H1
            obtain rfl := Option.some.inj H
            go_wp2
            go_ret
            exact ⟨by first | rfl | (simp [errW_none, errW_some] <;> rfl) | (simp [*, errW_none, errW_some] <;> rfl), by repeat (first | (with_reducible first | exact HB.out | apply below_alloc | apply pw_below_drewN | apply below_drew1) | exact HB.out)⟩

end Go.Proofs.Ytgcagmmghckbbaa.A

/- Arguments of a law opened as plain data, kind by kind: what can be read at a type is a value of its kind. -/
namespace Go.Proofs.Ytgcagmmghckbbaa.Opn
open Go.RowKit Go.Proofs.YtgcagmmghckbbaaW.PrintWords

/-- What reads at type t is a value of kind d, of which ok holds. -/
def Op {α : Type} (P : Program) (t : TypeId) (d : Kd α) (ok : α → Prop) : Prop :=
  ∀ (H : Type) (enc : TypeId × Value → H) (W : World) (fuel : Nat) (cs : List Value) (x : DataW H × List MemPlace),
    DataW.trod enc P W 0 (fun _ => true) true fuel t cs = some x → ∃ a : α, d.K W a cs ∧ ok a
/-- The same of a struct's fields from one on, which begins at cell o. -/
def OpF {α : Type} (P : Program) (o : Nat) (fs : List Field) (d : Kd α) (ok : α → Prop) : Prop :=
  ∀ (H : Type) (enc : TypeId × Value → H) (W : World) (fuel : Nat) (cs : List Value) (xs : List (DataW H × List MemPlace)), cs.length = o + d.sz →
    xs.length = fs.length → (∀ (i : Nat) (f : Field), fs[i]? = some f → DataW.trod enc P W 0 (fun _ => true) true fuel f.type ((cs.drop f.offset).take (P.cellsOf f.type)) = xs[i]?) → ∃ a : α, d.K W a (cs.drop o) ∧ ok a
def okInt (k : IntKind) (n : Int) : Prop := (Lit.int k n).wf = true
def okAll {α : Type} (ok : α → Prop) (l : List α) : Prop := l.length ≤ maxLen ∧ ∀ x ∈ l, ok x
def okTwo {α β : Type} (ok : α → Prop) (ok' : β → Prop) (x : α × β) : Prop := ok x.1 ∧ ok' x.2

theorem Op.int {P : Program} {t : TypeId} {k : IntKind} (ht : P.underlying t = some (.int k)) : Op P t (Kd.int k) (okInt k) := by
  intro H enc W fuel cs x h
  obtain ⟨n, rfl, _, hw⟩ := DataW.trod_int ht h
  exact ⟨n, rfl, hw⟩
theorem Op.bool {P : Program} {t : TypeId} (ht : P.underlying t = some .bool) : Op P t Kd.bool (fun _ => True) := by
  intro H enc W fuel cs x h
  obtain ⟨b, rfl, _⟩ := DataW.trod_bool ht h
  exact ⟨b, rfl, trivial⟩
theorem Op.iso {α β : Type} {P : Program} {t : TypeId} {d : Kd α} {ok : α → Prop} (h : Op P t d ok) (f : β → α) (g : α → β) (hfg : ∀ a, f (g a) = a) : Op P t (Kd.iso d f) (fun b => ok (f b)) := by
  intro H enc W fuel cs x hx
  obtain ⟨a, ha, hok⟩ := h H enc W fuel cs x hx
  refine ⟨g a, ?_, ?_⟩
  · show d.K W (f (g a)) cs
    rw [hfg]
    exact ha
  · show ok (f (g a))
    rw [hfg]
    exact hok
theorem list_of_lt {α : Type} {p : Nat → α → Prop} : ∀ n, (∀ i, i < n → ∃ a, p i a) → ∃ l : List α, l.length = n ∧ ∀ i a, l[i]? = some a → p i a
  | 0, _ => ⟨[], rfl, fun i a h => by simp at h⟩
  | n + 1, h => by
    obtain ⟨l, hl, hp⟩ := list_of_lt n (fun i hi => h i (by omega))
    obtain ⟨a, ha⟩ := h n (by omega)
    refine ⟨l ++ [a], by simp [hl], fun i b hb => ?_⟩
    by_cases hi : i < l.length
    · rw [List.getElem?_append_left hi] at hb
      exact hp i b hb
    · have hlt : i < (l ++ [a]).length := (List.getElem?_eq_some_iff.1 hb).1
      simp at hlt
      have : i = l.length := by omega
      subst this
      have hab : a = b := by simpa using hb
      subst hab
      rw [hl]
      exact ha
theorem Op.slice {α : Type} {P : Program} {t e : TypeId} {d : Kd α} {ok : α → Prop} (ht : P.underlying t = some (.slice e)) (hc : P.cellsOf e = d.sz) (h : Op P e d ok) :
    Op P t (Kd.slice e d) (okAll ok) := by
  intro H enc W fuel cs x hx
  rcases Deep.open_slice ht hx with ⟨rfl, _⟩ | ⟨a, len, cap, m, n, D, Pl, rfl, hb, hl, hm, hmm, _, hel⟩
  · exact ⟨[], ⟨none, 0, rfl, Nat.le_refl _, rfl, by simp, fun h => absurd h (by simp)⟩, by simp [okAll]⟩
  · rw [if_pos rfl] at hmm
    subst hmm
    obtain ⟨l, hlen, hl2⟩ := list_of_lt (p := fun i (y : α) => (∃ c, c.length = d.sz ∧ d.K W y c ∧ ∀ j u, c[j]? = some u → W.cell? (a.add (i * d.sz + j)) = some u) ∧ ok y) len (fun i hi => by
      obtain ⟨cs', h1, h2⟩ := hel i (by omega)
      obtain ⟨y, hy, hok⟩ := h H enc W n cs' _ h2
      obtain ⟨_, h3, h4⟩ := World.cells?_some h1
      refine ⟨y, ⟨cs', d.K_len hy, hy, fun j u hu => ?_⟩, hok⟩
      have hj : j < P.cellsOf e := by rw [← h3]; exact (List.getElem?_eq_some_iff.1 hu).1
      have h5 := h4 j hj
      rw [← hu, ← h5, hc, Addr.add_add])
    unfold maxLen at hm
    refine ⟨l, ⟨some a, m, by rw [hlen], by omega, rfl, by omega, fun _ => ⟨a, rfl, fun j p hj => (hl2 j p hj).1⟩⟩, by unfold maxLen; omega, fun y hy => ?_⟩
    obtain ⟨i, hi, rfl⟩ := List.getElem_of_mem hy
    exact (hl2 i _ (List.getElem?_eq_getElem hi)).2
theorem OpF.one {α : Type} {P : Program} {o : Nat} {f : Field} {d : Kd α} {ok : α → Prop} (ho : f.offset = o) (hc : P.cellsOf f.type = d.sz) (h : Op P f.type d ok) : OpF P o [f] d ok := by
  intro H enc W fuel cs xs hl hn hx
  match xs, hn with
  | [y], _ =>
  have hy := hx 0 f rfl
  simp only [List.getElem?_cons_zero] at hy
  rw [ho, hc, List.take_of_length_le (by simp; omega)] at hy
  exact h H enc W fuel _ _ hy
theorem OpF.cons {α β : Type} {P : Program} {o : Nat} {f : Field} {fs : List Field} {d : Kd α} {d' : Kd β} {ok : α → Prop} {ok' : β → Prop} (ho : f.offset = o) (hc : P.cellsOf f.type = d.sz) (h : Op P f.type d ok)
    (hr : OpF P (o + d.sz) fs d' ok') : OpF P o (f :: fs) (Kd.pair d d') (okTwo ok ok') := by
  intro H enc W fuel cs xs hl hn hx
  match xs, hn with
  | y :: ys, hn =>
  have hy := hx 0 f rfl
  have hys : ∀ (i : Nat) (f : Field), fs[i]? = some f → DataW.trod enc P W 0 (fun _ => true) true fuel f.type ((cs.drop f.offset).take (P.cellsOf f.type)) = ys[i]? := fun i g hg => by simpa using hx (i + 1) g (by simpa using hg)
  simp only [List.getElem?_cons_zero] at hy
  rw [ho, hc] at hy
  obtain ⟨a, ha, hok⟩ := h H enc W fuel _ _ hy
  obtain ⟨b, hb, hok'⟩ := hr H enc W fuel cs ys (by rw [hl]; show o + (d.sz + d'.sz) = _; omega) (by simpa using hn) hys
  refine ⟨(a, b), ⟨_, _, ?_, ha, hb⟩, hok, hok'⟩
  rw [← List.drop_drop, List.take_append_drop]
theorem Op.struct {α : Type} {P : Program} {t : TypeId} {fs : Array Field} {d : Kd α} {ok : α → Prop} (ht : P.underlying t = some (.struct fs)) (hc : P.cellsOf t = d.sz) (h : OpF P 0 fs.toList d ok) : Op P t d ok := by
  intro H enc W fuel cs x hx
  obtain ⟨xs, n, _, _, hl, hn, hxs⟩ := DataW.trod_struct ht hx
  obtain ⟨a, ha, hok⟩ := h H enc W n cs xs (by omega) (by simpa using hn) (fun i f hf => hxs i f (by simpa using hf))
  exact ⟨a, by simpa using ha, hok⟩
end Go.Proofs.Ytgcagmmghckbbaa.Opn

/- The plain statement of the law FnExactSolveJigsaw, over numbers and lists alone, and how its arguments are opened. -/
namespace Go.Proofs.Ytgcagmmghckbbaa.A
open Go.RowKit Go.Proofs.YtgcagmmghckbbaaW.PrintWords Go.Proofs.YtgcagmmghckbbaaW.PrintLast Go.Proofs.YtgcagmmghckbbaaW.PrintMore
def ok23 (x : S23) : Prop := (Go.Proofs.Ytgcagmmghckbbaa.Opn.okTwo (Go.Proofs.Ytgcagmmghckbbaa.Opn.okInt .i64) (Go.Proofs.Ytgcagmmghckbbaa.Opn.okTwo (Go.Proofs.Ytgcagmmghckbbaa.Opn.okInt .i64) (Go.Proofs.Ytgcagmmghckbbaa.Opn.okTwo (Go.Proofs.Ytgcagmmghckbbaa.Opn.okInt .i64) (Go.Proofs.Ytgcagmmghckbbaa.Opn.okInt .i64)))) (x.f0, x.f1, x.f2, x.f3)
theorem op2 : Go.Proofs.Ytgcagmmghckbbaa.Opn.Op Try.prog 2 (Kd.int .i64) (Go.Proofs.Ytgcagmmghckbbaa.Opn.okInt .i64) := Go.Proofs.Ytgcagmmghckbbaa.Opn.Op.int Try.underlying2
theorem op23 : Go.Proofs.Ytgcagmmghckbbaa.Opn.Op Try.prog 23 k23 ok23 := Go.Proofs.Ytgcagmmghckbbaa.Opn.Op.iso (Go.Proofs.Ytgcagmmghckbbaa.Opn.Op.struct Try.underlying23 (by kernel_rfl) (Go.Proofs.Ytgcagmmghckbbaa.Opn.OpF.cons rfl (by kernel_rfl) op2 (Go.Proofs.Ytgcagmmghckbbaa.Opn.OpF.cons rfl (by kernel_rfl) op2 (Go.Proofs.Ytgcagmmghckbbaa.Opn.OpF.cons rfl (by kernel_rfl) op2 (Go.Proofs.Ytgcagmmghckbbaa.Opn.OpF.one rfl (by kernel_rfl) op2))))) (fun x : S23 => (x.f0, x.f1, x.f2, x.f3)) (fun p => ⟨p.1, p.2.1, p.2.2.1, p.2.2.2⟩) (fun _ => rfl)
theorem op30 : Go.Proofs.Ytgcagmmghckbbaa.Opn.Op Try.prog 30 (Kd.slice 23 k23) (Go.Proofs.Ytgcagmmghckbbaa.Opn.okAll ok23) := Go.Proofs.Ytgcagmmghckbbaa.Opn.Op.slice Try.underlying30 (by kernel_rfl) op23
def FnExactSolveJigsaw.Pure : Prop := ∀ (a0 : List (S23)) (a1 : Int) (a2 : Int), (Go.Proofs.Ytgcagmmghckbbaa.Opn.okAll ok23) a0 → (Go.Proofs.Ytgcagmmghckbbaa.Opn.okInt .i64) a1 → (Go.Proofs.Ytgcagmmghckbbaa.Opn.okInt .i64) a2 → ∃ k, laws_FnExactSolveJigsaw.f k a0 a1 a2 = some true
end Go.Proofs.Ytgcagmmghckbbaa.A




/- Plain laws of what the laws do with lists of sets. -/
namespace Go.Proofs.Ytgcagmmghckbbaa.A
set_option linter.unusedSimpArgs false
set_option linter.unusedVariables false
open Go.RowKit Go.Proofs.YtgcagmmghckbbaaW.PrintWords Go.Proofs.YtgcagmmghckbbaaW.PrintLast Go.Proofs.YtgcagmmghckbbaaW.PrintMore
theorem eqSetS_ev (l : List St) (h : l.length ≤ 1048576) : Ev (fun k => laws_eqSetS.f k l l) true := by
  unfold laws_eqSetS.f
  simp only [if_true]
  refine ev_at l.length (fun (_ : Unit) _ => True) true (fun _ i k => laws_eqSetS.l0 k l l i) (fun s hi => ?_) (fun s j hj hi => ?_) () trivial
  · exact Ev.step (f := fun _ => some true) (fun k => by simp only [laws_eqSetS.l0]; rw [if_neg (by omega)]) (Ev.now _)
  · refine ⟨(), trivial, fun h2 => Ev.step (fun k => ?_) h2⟩
    simp only [laws_eqSetS.l0, laws_eqSet.f, if_true, Option.bind_some]
    rw [if_pos (by omega), if_pos (by omega), if_pos (by omega), wrap_succ j (by omega)]
/-- Marks: what a list of sets holds behind the marking from c on. -/
def sets (c : Int) (n : Nat) : List St := (List.range n).map fun (i : Nat) => ⟨c + 2 * (i : Int), c + 2 * (i : Int) + 1⟩
theorem sets_len (c : Int) (n : Nat) : (sets c n).length = n := by simp [sets]
theorem sets_get (c : Int) (n j : Nat) (h : j < (sets c n).length) : (sets c n)[j] = ⟨c + 2 * (j : Int), c + 2 * (j : Int) + 1⟩ := by simp [sets]
theorem sets_succ (c : Int) (n : Nat) : sets c (n + 1) = sets c n ++ [⟨c + 2 * (n : Int), c + 2 * (n : Int) + 1⟩] := by simp [sets, List.range_succ]
theorem markSetS_ev (l : List St) (c : Int) (h : l.length ≤ 1048576) (h0 : 0 ≤ c) (h1 : c ≤ 8388608) : Ev (fun k => laws_markSetS.f k l c) (c + 2 * (l.length : Int), sets c l.length) := by
  unfold laws_markSetS.f
  refine ev_at l.length (fun (s : List St × Int) j => s.1.length = l.length ∧ s.2 = c + 2 * (j : Int) ∧ s.1.take j = sets c j) (c + 2 * (l.length : Int), sets c l.length) (fun s i k => laws_markSetS.l0 k s.1 s.2 i) (fun s hi => ?_) (fun s j hj hi => ?_) (l, c) ⟨rfl, by simp, by simp [sets]⟩
  · refine Ev.step (f := fun _ => some (s.2, s.1)) (fun k => by simp only [laws_markSetS.l0]; rw [if_neg (by omega)]) ?_
    have h3 := hi.2.2
    rw [List.take_of_length_le (by omega)] at h3
    rw [hi.2.1, h3]
    exact Ev.now _
  · have hj' : j < s.1.length := by omega
    refine ⟨(s.1.set j ⟨s.2, s.2 + 1⟩, s.2 + 2), ⟨by simp only [List.length_set]; exact hi.1, by simp only; omega, ?_⟩, fun h2 => Ev.step (fun k => ?_) h2⟩
    · have hl : j < (s.1.set j ⟨s.2, s.2 + 1⟩).length := by rw [List.length_set]; omega
      simp only
      rw [List.take_succ_eq_append_getElem hl, List.getElem_set_self, List.take_set_of_le (Nat.le_refl j), hi.2.2, hi.2.1, sets_succ]
    · have e1 : wrap64 (s.2 + 1) = s.2 + 1 := by have := hi.2.1; unfold wrap64; omega
      have e2 : wrap64 (s.2 + 1 + 1) = s.2 + 2 := by have := hi.2.1; unfold wrap64; omega
      simp only [laws_markSetS.l0, Int.toNat_natCast, Option.bind_some, e1, e2]
      rw [if_pos (by omega), if_pos (by omega), wrap_succ j (by omega)]
      simp [rd_T74, hj']
theorem heldSets_ev (n : Nat) (h : n ≤ 1048576) : Ev (fun k => laws_heldSetS.f k (sets 1 n) 1) (1 + 2 * (n : Int)) := by
  unfold laws_heldSetS.f
  refine ev_at n (fun (s : Int) j => s = 1 + 2 * (j : Int)) (1 + 2 * (n : Int)) (fun s i k => laws_heldSetS.l0 k (sets 1 n) s i) (fun s hi => ?_) (fun s j hj hi => ?_) 1 (by simp)
  · exact Ev.step (f := fun _ => some s) (fun k => by simp only [laws_heldSetS.l0]; rw [if_neg (by rw [sets_len]; omega)]) (by rw [hi]; exact Ev.now _)
  · refine ⟨s + 2, by omega, fun h2 => Ev.step (fun k => ?_) h2⟩
    have e1 : wrap64 (s + 1) = s + 1 := by unfold wrap64; omega
    have e2 : wrap64 (s + 1 + 1) = s + 2 := by unfold wrap64; omega
    have e3 : rd_T74 (sets 1 n) (j : Int) = ⟨1 + 2 * (j : Int), 1 + 2 * (j : Int) + 1⟩ := by rw [setAt_nat _ j (by rw [sets_len]; exact hj), sets_get]
    simp only [laws_heldSetS.l0, e1, e2, e3]
    rw [if_pos (by rw [sets_len]; omega), if_pos (by omega), if_pos (by omega), if_pos (by omega), wrap_succ j (by omega)]
end Go.Proofs.Ytgcagmmghckbbaa.A

/- Every layout that the search finds is a correct one of full length. Plain law. -/
namespace Go.Proofs.Ytgcagmmghckbbaa.A
set_option linter.unusedSimpArgs false
set_option linter.unusedVariables false
open Go.RowKit Go.Proofs.YtgcagmmghckbbaaW.PrintWords Go.Proofs.YtgcagmmghckbbaaW.PrintLast Go.Proofs.YtgcagmmghckbbaaW.PrintMore
/-- The tile of a set, turned. -/
def pT (tiles : List Tl) (s : St) : Tl := turnT (tileAt tiles s.f0) s.f1
theorem corr_snoc (tiles : List Tl) (w h : Int) (s : St) : ∀ (l : List St) (pl : List Tl) (seen : List Int),
    corr tiles w h pl seen (l ++ [s]) = (corr tiles w h pl seen l && (inB s.f0 0 ((tiles.length : Int) - 1) && (inB s.f1 0 3 && (!((seen ++ l.map (·.f0)).contains s.f0) && fitsV (pl ++ l.map (pT tiles)) (pT tiles s) w h))))
  | [], pl, seen => by simp [corr, pT]
  | x :: r, pl, seen => by
    rw [List.cons_append, corr, corr_snoc tiles w h s r]
    rw [corr]
    simp only [List.map_cons, List.append_assoc, List.cons_append, List.nil_append, Bool.and_assoc]
    rfl
def Good (tiles : List Tl) (w h : Int) (l : List St) : Prop := corr tiles w h [] [] l = true
def AllGood (tiles : List Tl) (w h : Int) (s : VS) : Prop := ∀ l ∈ s.found, l.length = tiles.length ∧ Good tiles w h l
theorem turnsV_good (tiles : List Tl) (w h most : Int) (visit : List St → List Tl → VS → VS) (layout : List St) (i : Nat) (hi : i < tiles.length) (hu : usedV layout i = false) (hg : Good tiles w h layout)
    (hv : ∀ (x : St) (s : VS), Good tiles w h (layout ++ [x]) → AllGood tiles w h s → AllGood tiles w h (visit (layout ++ [x]) (layout.map (pT tiles) ++ [pT tiles x]) s)) :
    ∀ (m : Nat) (s : VS), m ≤ 4 → AllGood tiles w h s → AllGood tiles w h (turnsV tiles w h most visit layout (layout.map (pT tiles)) i m s)
  | 0, s, _, hs => hs
  | m + 1, s, hm, hs => by
    unfold turnsV
    split
    · exact hs
    · refine turnsV_good tiles w h most visit layout i hi hu hg hv m _ (by omega) ?_
      split
      · rename_i hc
        simp only [Bool.and_eq_true] at hc
        refine hv ⟨i, (4 - (m + 1) : Nat)⟩ s ?_ hs
        unfold Good at *
        rw [corr_snoc, hg]
        simp only [Bool.true_and, List.nil_append, Bool.and_eq_true, inB_iff]
        refine ⟨by omega, by omega, ?_, hc.2⟩
        unfold usedV at hu
        have e : ((layout.map (·.f0)).contains ((i : Nat) : Int)) = layout.any fun x => x.f0 == (i : Int) := by
          clear hg hv hc hu
          induction layout with
          | nil => rfl
          | cons a l ih =>
            rw [List.map_cons, List.contains_cons, ih, List.any_cons]
            congr 1
            exact BEq.comm
        rw [e, hu]
        rfl
      · exact hs
theorem tilesV_good (tiles : List Tl) (w h most : Int) (visit : List St → List Tl → VS → VS) (layout : List St) (hg : Good tiles w h layout)
    (hv : ∀ (x : St) (s : VS), Good tiles w h (layout ++ [x]) → AllGood tiles w h s → AllGood tiles w h (visit (layout ++ [x]) (layout.map (pT tiles) ++ [pT tiles x]) s)) :
    ∀ (m : Nat) (s : VS), m ≤ tiles.length → AllGood tiles w h s → AllGood tiles w h (tilesV tiles w h most visit layout (layout.map (pT tiles)) m s)
  | 0, s, _, hs => hs
  | m + 1, s, hm, hs => by
    unfold tilesV
    refine tilesV_good tiles w h most visit layout hg hv m _ (by omega) ?_
    split
    · exact hs
    · rename_i hu
      exact turnsV_good tiles w h most visit layout _ (by omega) (by simpa using hu) hg hv 4 s (by omega) hs
theorem visitV_good (tiles : List Tl) (w h most : Int) : ∀ (d : Nat) (layout : List St) (s : VS), layout.length + d = tiles.length → Good tiles w h layout → AllGood tiles w h s → AllGood tiles w h (visitV tiles w h most d layout (layout.map (pT tiles)) s)
  | d, layout, s, hl, hg, hs => by
    unfold visitV
    split
    · exact hs
    · cases d with
      | zero =>
        intro l hm
        simp only [List.mem_append, List.mem_singleton] at hm
        rcases hm with hm | rfl
        · exact hs l hm
        · exact ⟨by omega, hg⟩
      | succ d =>
        refine tilesV_good tiles w h most _ layout hg (fun x s hx hs => ?_) _ _ (Nat.le_refl _) hs
        have := visitV_good tiles w h most d (layout ++ [x]) s (by simp; omega) hx hs
        simpa using this
theorem search_good (tiles : List Tl) (w h most : Int) : AllGood tiles w h (visitV tiles w h most tiles.length [] [] ⟨0, [], false⟩) := by
  have := visitV_good tiles w h most tiles.length [] ⟨0, [], false⟩ (by simp) rfl (fun l hl => by simp at hl)
  simpa using this
end Go.Proofs.Ytgcagmmghckbbaa.A

/- SolveJigsaw: the program finds the layout that the reference finds, or tells the same code; what it hands back is its own. -/
namespace Go.Proofs.Ytgcagmmghckbbaa.Pure
open Go.RowKit Go.Proofs.YtgcagmmghckbbaaW.PrintWords Go.Proofs.YtgcagmmghckbbaaW.PrintLast Go.Proofs.YtgcagmmghckbbaaW.PrintMore Go.Proofs.Ytgcagmmghckbbaa.A
theorem solOut_len (l : List Tl) (w h : Int) (hc : l.length ≤ 1048576) : (solOut l w h).1.length ≤ 1048576 := by
  unfold solOut outS
  split
  · cases hf : (searchV l w h 1).found with
    | nil => simp; split <;> simp
    | cons x xs =>
      have := (search_good l w h 1 x (by rw [show visitV l w h 1 l.length [] [] ⟨0, [], false⟩ = searchV l w h 1 from rfl, hf]; simp)).1
      simp
      omega
  · simp
theorem FnExactSolveJigsaw : Go.Proofs.Ytgcagmmghckbbaa.A.FnExactSolveJigsaw.Pure := by
  intro l w h hl hw hh
  apply Ev.rounds
  unfold laws_FnExactSolveJigsaw.f
  by_cases c : l.length ≤ 1048576
  · refine Ev.bindc (szTileS_in l c) ?_
    simp only [show ¬ ((1048576 - (l.length : Int)) < 0) from by omega, if_false]
    have hc : (l.map toTl).length ≤ 1048576 := by simpa using c
    have hf := solOut_len (l.map toTl) w h hc
    obtain ⟨r, hr0, hr⟩ := markTileS_ev (l.map toTl) hc
    have hS : Ev (fun k => spec_SolveJigsaw.f k (l.map toTl) w h) (solOut (l.map toTl) w h) := Ev.val fun k => by unfold spec_SolveJigsaw.f; exact if_pos hc
    have hI : Ev (fun k => impl_SolveJigsaw.f k (l.map toTl) w h) (solOut (l.map toTl) w h) := Ev.val fun k => rfl
    refine Ev.bind (toTileS_ev l c) (Ev.bind hS (Ev.bind (toTileS_ev l c) (Ev.bind hI (Ev.bind (eqSetS_ev _ hf) ?_))))
    simp only [if_true, bne_self_eq_false]
    refine Ev.succ ?_
    simp only [laws_FnExactSolveJigsaw.j0, Bool.false_eq_true, if_false]
    refine Ev.bind (toTileS_ev l c) (Ev.bind (eqTileS_ev _ hc) ?_)
    simp only [if_true]
    refine Ev.bind hr ?_
    simp only [show ¬ (r.1 < 0) from by omega, if_false]
    refine Ev.bind (eqSetS_ev _ hf) ?_
    simp only [if_true, bne_self_eq_false]
    refine Ev.succ ?_
    simp only [laws_FnExactSolveJigsaw.j1, Bool.false_eq_true, if_false]
    refine Ev.bind (markSetS_ev _ 1 hf (by omega) (by omega)) (Ev.bind (heldSets_ev _ hf) ?_)
    simp only [if_true, show ¬ ((1 + 2 * ((solOut (l.map toTl) w h).1.length : Int)) < 0) from by omega, if_false]
    refine Ev.bind (toTileS_ev l c) (Ev.bind hI (Ev.bind (eqSetS_ev _ hf) ?_))
    simp only [if_true, bne_self_eq_false]
    refine Ev.succ ?_
    simp only [laws_FnExactSolveJigsaw.j2, Bool.false_eq_true, if_false]
    refine Ev.bind (heldSets_ev _ hf) (Ev.val fun k => ?_)
    simp only [if_true, show ¬ ((1 + 2 * ((solOut (l.map toTl) w h).1.length : Int)) < 0) from by omega, if_false]
  · exact Ev.bindc (szTileS_out l hl.1 c) (Ev.val fun k => by simp)
end Go.Proofs.Ytgcagmmghckbbaa.Pure

