/- What the row of the law FnExactTurnLayout stands on, part 6. -/
import Derived.Test.YtgcagmmghckbbaaMFnExactTurnLayout5
namespace Go.Proofs.Ytgcagmmghckbbaa.A
open Go.RowKit Go.Proofs.YtgcagmmghckbbaaW.PrintWords Go.Proofs.YtgcagmmghckbbaaW.PrintLast Go.Proofs.YtgcagmmghckbbaaW.PrintMore
attribute [local go_sem] max2_int min2_int max_two min_two max_three min_three max_four min_four   -- for this text's walks alone
set_option linter.unusedVariables false
set_option linter.unusedSimpArgs false

mutual
def laws_FnExactTurnLayout.j0 : Nat → List (S23) → Int → Int → List (S78) → List (S74) → Int → List (S24) → List (S74) → List (S74) → Int → Bool → Option (Bool)
  | 0, _, _, _, _, _, _, _, _, _, _, _ => none
  | k + 1, x0, x1, x2, x3, x10, x11, x12, x13, x14, x15, x61 => if x61 = true then (some false) else ((laws_toTileS.f k x0).bind fun t614 => ((laws_eqTileS.f k x12 t614).bind fun t617 => (if t617 = true then ((laws_toSetS.f k x3).bind fun t618 => ((laws_eqSetS.f k x13 t618).bind fun t621 => (if t621 = true then ((laws_markTileS.f k x12 1).bind fun bt622 => ((laws_markSetS.f k x13 bt622.1).bind fun bt624 => (if bt624.1 < 0 then (laws_FnExactTurnLayout.j1 k x0 x1 x2 x3 x10 x11 x14 true) else ((laws_eqSetS.f k x14 x10).bind fun t626 => (if t626 = true then (laws_FnExactTurnLayout.j1 k x0 x1 x2 x3 x10 x11 x14 (x15 != x11)) else (laws_FnExactTurnLayout.j1 k x0 x1 x2 x3 x10 x11 x14 true)))))) else (some false)))) else (some false))))
def laws_FnExactTurnLayout.j1 : Nat → List (S23) → Int → Int → List (S78) → List (S74) → Int → List (S74) → Bool → Option (Bool)
  | 0, _, _, _, _, _, _, _, _ => none
  | k + 1, x0, x1, x2, x3, x10, x11, x14, x90 => if x90 = true then (some false) else ((laws_markSetS.f k x14 1).bind fun bt627 => ((laws_heldSetS.f k bt627.2 1).bind fun t629 => (if t629 < 0 then (some false) else (if t629 = bt627.1 then ((laws_toTileS.f k x0).bind fun t630 => ((laws_toSetS.f k x3).bind fun t633 => ((impl_TurnLayout.f k t630 x1 x2 t633).bind fun bt636 => ((laws_eqSetS.f k bt636.1 x10).bind fun t640 => (if t640 = true then (laws_FnExactTurnLayout.j2 k bt627.2 bt627.1 (bt636.2 != x11)) else (laws_FnExactTurnLayout.j2 k bt627.2 bt627.1 true)))))) else (some false)))))
def laws_FnExactTurnLayout.j2 : Nat → List (S74) → Int → Bool → Option (Bool)
  | 0, _, _, _ => none
  | k + 1, x14, x17, x120 => if x120 = true then (some false) else ((laws_heldSetS.f k x14 1).bind fun t641 => (if t641 < 0 then (some false) else (if t641 = x17 then (some true) else (some false))))
end
def laws_FnExactTurnLayout.f (k : Nat) (l0 : List (S23)) (a1 : Int) (a2 : Int) (l3 : List (S78)) : Option (Bool) := (laws_szTileS.f l0 1048576).bind fun t591 => (if t591 < 0 then (some true) else ((laws_szSetS.f l3 t591).bind fun t592 => (if t592 < 0 then (some true) else ((laws_toTileS.f k l0).bind fun t593 => ((laws_toSetS.f k l3).bind fun t596 => ((spec_TurnLayout.f k t593 a1 a2 t596).bind fun bt599 => ((laws_toTileS.f k l0).bind fun t603 => ((laws_toSetS.f k l3).bind fun t606 => ((impl_TurnLayout.f k t603 a1 a2 t606).bind fun bt609 => ((laws_eqSetS.f k bt609.1 bt599.1).bind fun t613 => (if t613 = true then (laws_FnExactTurnLayout.j0 k l0 a1 a2 l3 bt599.1 bt599.2 t603 t606 bt609.1 bt609.2 (bt609.2 != bt599.2)) else (laws_FnExactTurnLayout.j0 k l0 a1 a2 l3 bt599.1 bt599.2 t603 t606 bt609.1 bt609.2 true))))))))))))
set_option maxHeartbeats 8000000 in
set_option maxRecDepth 100000 in
theorem laws_FnExactTurnLayout.calls (k : Nat) (A0 : Option Addr) (c0 : Nat) (l0 : List (S23)) (a1 : Int) (a2 : Int) (A3 : Option Addr) (c3 : Nat) (l3 : List (S78)) (r : Bool) (w : World) (hr0 : Kd.C k23 w A0 l0.length l0) (hc0 : l0.length ≤ c0) (hr3 : Kd.C k78 w A3 l3.length l3) (hc3 : l3.length ≤ c3) (h : laws_FnExactTurnLayout.f k l0 a1 a2 l3 = some r) :
    Calls Try.prog 9 #[.slice A0 l0.length c0, .int .i64 a1, .int .i64 a2, .slice A3 l3.length c3] w fun e w' => e = .returned (.bool r) ∧ Below w.heap.size w w' := by
  have HR0 := Aside0.mk hr0
  have HC0 := Aside0.mk hc0
  clear hr0 hc0
  have HR3 := Aside0.mk hr3
  have HC3 := Aside0.mk hc3
  clear hr3 hc3
  have HB := Aside0.mk (Below.refl w.heap.size w)
  have H : ((laws_szTileS.f l0 1048576).bind fun t591 => (if t591 < 0 then (some true) else ((laws_szSetS.f l3 t591).bind fun t592 => (if t592 < 0 then (some true) else ((laws_toTileS.f k l0).bind fun t593 => ((laws_toSetS.f k l3).bind fun t596 => ((spec_TurnLayout.f k t593 a1 a2 t596).bind fun bt599 => ((laws_toTileS.f k l0).bind fun t603 => ((laws_toSetS.f k l3).bind fun t606 => ((impl_TurnLayout.f k t603 a1 a2 t606).bind fun bt609 => ((laws_eqSetS.f k bt609.1 bt599.1).bind fun t613 => (if t613 = true then (laws_FnExactTurnLayout.j0 k l0 a1 a2 l3 bt599.1 bt599.2 t603 t606 bt609.1 bt609.2 (bt609.2 != bt599.2)) else (laws_FnExactTurnLayout.j0 k l0 a1 a2 l3 bt599.1 bt599.2 t603 t606 bt609.1 bt609.2 true))))))))))))) = some r := h
  clear h
  replace H := Option.bind_eq_some_iff.mp H
  obtain ⟨t591, A50, H⟩ := H
  replace H : (if t591 < 0 then (some true) else ((laws_szSetS.f l3 t591).bind fun t592 => (if t592 < 0 then (some true) else ((laws_toTileS.f k l0).bind fun t593 => ((laws_toSetS.f k l3).bind fun t596 => ((spec_TurnLayout.f k t593 a1 a2 t596).bind fun bt599 => ((laws_toTileS.f k l0).bind fun t603 => ((laws_toSetS.f k l3).bind fun t606 => ((impl_TurnLayout.f k t603 a1 a2 t606).bind fun bt609 => ((laws_eqSetS.f k bt609.1 bt599.1).bind fun t613 => (if t613 = true then (laws_FnExactTurnLayout.j0 k l0 a1 a2 l3 bt599.1 bt599.2 t603 t606 bt609.1 bt609.2 (bt609.2 != bt599.2)) else (laws_FnExactTurnLayout.j0 k l0 a1 a2 l3 bt599.1 bt599.2 t603 t606 bt609.1 bt609.2 true)))))))))))) = some r := H
  have A5 := Aside0.mk A50
  clear A50
  have H0_ := Aside0.mk H
  clear H
  go_enter Try.func9, Try.ntmps9
  go_wp2_with (first | ((with_reducible refine gate_callee (f := 17) rfl ?_); refine goesL_ (some 23) rfl rfl Try.func17 (by kernel_rfl) rfl #[.slice A0 l0.length c0, .int .i64 1048576] rfl (by (try simp only [List.map_toArray, List.map_cons, List.map_nil]); first | done | rfl | (simp only [List.length_drop, List.length_take]; rfl)) ?_; (with_reducible refine (laws_szTileS.calls _ _ l0 1048576 t591 _ ?side1 ?side2 A5.out).mono ?_); (case side1 => repeat (first | exact HR0.out | (with_reducible refine Kd.C_alloc ?_ _) | (with_reducible refine Kd.C_drewN ?_ _) | (with_reducible refine Kd.C_drew ?_))); (case side2 => exact HC0.out); rintro e w' ⟨rfl, ⟨nd, rfl⟩⟩; refine ⟨_, rfl, ?_⟩; refine Stop0.out ?_))
  refine Stop0.mk ?_
  have H := H0_.out
  clear H0_
  by_cases c6 : t591 < 0
  · rw [if_pos c6] at H
    have c6b0 : decide (t591 < 0) = true := decide_eq_true c6
    clear c6
    obtain rfl := Option.some.inj H
    go_wp2
    go_ret
    exact ⟨by first | rfl | (simp [errW_none, errW_some] <;> rfl) | (simp [*, errW_none, errW_some] <;> rfl), by repeat (first | (with_reducible first | exact HB.out | apply below_alloc | apply pw_below_drewN | apply below_drew1) | exact HB.out)⟩
  · rw [if_neg c6] at H
    have c6b0 : decide (t591 < 0) = false := decide_eq_false c6
    clear c6
    replace H := Option.bind_eq_some_iff.mp H
    obtain ⟨t592, A70, H⟩ := H
    replace H : (if t592 < 0 then (some true) else ((laws_toTileS.f k l0).bind fun t593 => ((laws_toSetS.f k l3).bind fun t596 => ((spec_TurnLayout.f k t593 a1 a2 t596).bind fun bt599 => ((laws_toTileS.f k l0).bind fun t603 => ((laws_toSetS.f k l3).bind fun t606 => ((impl_TurnLayout.f k t603 a1 a2 t606).bind fun bt609 => ((laws_eqSetS.f k bt609.1 bt599.1).bind fun t613 => (if t613 = true then (laws_FnExactTurnLayout.j0 k l0 a1 a2 l3 bt599.1 bt599.2 t603 t606 bt609.1 bt609.2 (bt609.2 != bt599.2)) else (laws_FnExactTurnLayout.j0 k l0 a1 a2 l3 bt599.1 bt599.2 t603 t606 bt609.1 bt609.2 true)))))))))) = some r := H
    have A7 := Aside0.mk A70
    clear A70
    have H0_ := Aside0.mk H
    clear H
    go_wp2_with (first | ((with_reducible refine gate_callee (f := 32) rfl ?_); refine goesL_ (some 28) rfl rfl Try.func32 (by kernel_rfl) rfl #[.slice A3 l3.length c3, .int .i64 t591] rfl (by (try simp only [List.map_toArray, List.map_cons, List.map_nil]); first | done | rfl | (simp only [List.length_drop, List.length_take]; rfl)) ?_; (with_reducible refine (laws_szSetS.calls _ _ l3 t591 t592 _ ?side1 ?side2 A7.out).mono ?_); (case side1 => repeat (first | exact (Kd.C_below HR3.out HB.out) | (with_reducible refine Kd.C_alloc ?_ _) | (with_reducible refine Kd.C_drewN ?_ _) | (with_reducible refine Kd.C_drew ?_))); (case side2 => exact HC3.out); rintro e w' ⟨rfl, ⟨nd, rfl⟩⟩; refine ⟨_, rfl, ?_⟩; refine Stop0.out ?_))
    refine Stop0.mk ?_
    have H := H0_.out
    clear H0_
    by_cases c8 : t592 < 0
    · rw [if_pos c8] at H
      have c8b0 : decide (t592 < 0) = true := decide_eq_true c8
      clear c8
      obtain rfl := Option.some.inj H
      go_wp2
      go_ret
      exact ⟨by first | rfl | (simp [errW_none, errW_some] <;> rfl) | (simp [*, errW_none, errW_some] <;> rfl), by repeat (first | (with_reducible first | exact HB.out | apply below_alloc | apply pw_below_drewN | apply below_drew1) | exact HB.out)⟩
    · rw [if_neg c8] at H
      have c8b0 : decide (t592 < 0) = false := decide_eq_false c8
      clear c8
      replace H := Option.bind_eq_some_iff.mp H
      obtain ⟨t593, A90, H⟩ := H
      replace H : ((laws_toSetS.f k l3).bind fun t596 => ((spec_TurnLayout.f k t593 a1 a2 t596).bind fun bt599 => ((laws_toTileS.f k l0).bind fun t603 => ((laws_toSetS.f k l3).bind fun t606 => ((impl_TurnLayout.f k t603 a1 a2 t606).bind fun bt609 => ((laws_eqSetS.f k bt609.1 bt599.1).bind fun t613 => (if t613 = true then (laws_FnExactTurnLayout.j0 k l0 a1 a2 l3 bt599.1 bt599.2 t603 t606 bt609.1 bt609.2 (bt609.2 != bt599.2)) else (laws_FnExactTurnLayout.j0 k l0 a1 a2 l3 bt599.1 bt599.2 t603 t606 bt609.1 bt609.2 true)))))))) = some r := H
      have A9 := Aside0.mk A90
      clear A90
      have H0_ := Aside0.mk H
      clear H
      go_wp2_with (first | ((with_reducible refine gate_callee (f := 19) rfl ?_); refine goesL_ (some 33) rfl rfl Try.func19 (by kernel_rfl) rfl #[.slice A0 l0.length c0] rfl (by (try simp only [List.map_toArray, List.map_cons, List.map_nil]); first | done | rfl | (simp only [List.length_drop, List.length_take]; rfl)) ?_; (with_reducible refine (laws_toTileS.calls k _ _ l0 t593 _ ?side1 ?side2 A9.out).mono ?_); (case side1 => repeat (first | exact (Kd.C_below HR0.out HB.out) | (with_reducible refine Kd.C_alloc ?_ _) | (with_reducible refine Kd.C_drewN ?_ _) | (with_reducible refine Kd.C_drew ?_))); (case side2 => exact HC0.out); rintro e w10 ⟨v594, rfl, ho0, hb⟩; refine ⟨_, rfl, ?_⟩; have n0_ := Aside0.mk (Kd.R_lower ho0 (below_size (by repeat (first | (with_reducible first | exact HB.out | apply below_alloc | apply pw_below_drewN | apply below_drew1) | exact HB.out)))); have n1_ := Aside0.mk (below_step (by repeat (first | (with_reducible first | exact HB.out | apply below_alloc | apply pw_below_drewN | apply below_drew1) | exact HB.out)) hb); clear HB; have HO595 := n0_; have HB := n1_; clear n0_ n1_; (try clear hb); (try clear hb2); (try clear hk); (try clear hi); (try clear ho0); refine Stop0.out ?_))
      refine Stop0.mk ?_
      have H := H0_.out
      clear H0_
      replace H := Option.bind_eq_some_iff.mp H
      obtain ⟨t596, A110, H⟩ := H
      replace H : ((spec_TurnLayout.f k t593 a1 a2 t596).bind fun bt599 => ((laws_toTileS.f k l0).bind fun t603 => ((laws_toSetS.f k l3).bind fun t606 => ((impl_TurnLayout.f k t603 a1 a2 t606).bind fun bt609 => ((laws_eqSetS.f k bt609.1 bt599.1).bind fun t613 => (if t613 = true then (laws_FnExactTurnLayout.j0 k l0 a1 a2 l3 bt599.1 bt599.2 t603 t606 bt609.1 bt609.2 (bt609.2 != bt599.2)) else (laws_FnExactTurnLayout.j0 k l0 a1 a2 l3 bt599.1 bt599.2 t603 t606 bt609.1 bt609.2 true))))))) = some r := H
      have A11 := Aside0.mk A110
      clear A110
      have H0_ := Aside0.mk H
      clear H
      go_wp2_with (first | ((with_reducible refine gate_callee (f := 34) rfl ?_); refine goesL_ (some 37) rfl rfl Try.func34 (by kernel_rfl) rfl #[.slice A3 l3.length c3] rfl (by (try simp only [List.map_toArray, List.map_cons, List.map_nil]); first | done | rfl | (simp only [List.length_drop, List.length_take]; rfl)) ?_; (with_reducible refine (laws_toSetS.calls k _ _ l3 t596 _ ?side1 ?side2 A11.out).mono ?_); (case side1 => repeat (first | exact (Kd.C_below HR3.out HB.out) | (with_reducible refine Kd.C_alloc ?_ _) | (with_reducible refine Kd.C_drewN ?_ _) | (with_reducible refine Kd.C_drew ?_))); (case side2 => exact HC3.out); rintro e w12 ⟨v597, rfl, ho0, hb⟩; refine ⟨_, rfl, ?_⟩; have n0_ := Aside0.mk (Kd.R_below (by (with_reducible repeat (first | apply Kd.R_alloc | apply Kd.R_drewN | apply Kd.R_drew)); exact HO595.out) hb); have n1_ := Aside0.mk (Kd.R_lower ho0 (below_size (by repeat (first | (with_reducible first | exact HB.out | apply below_alloc | apply pw_below_drewN | apply below_drew1) | exact HB.out)))); have n2_ := Aside0.mk (below_step (by repeat (first | (with_reducible first | exact HB.out | apply below_alloc | apply pw_below_drewN | apply below_drew1) | exact HB.out)) hb); clear HO595; clear HB; have HO595 := n0_; have HO598 := n1_; have HB := n2_; clear n0_ n1_ n2_; (try clear hb); (try clear hb2); (try clear hk); (try clear hi); (try clear ho0); refine Stop0.out ?_))
      refine Stop0.mk ?_
      have H := H0_.out
      clear H0_
      replace H := Option.bind_eq_some_iff.mp H
      obtain ⟨⟨t599, t600⟩, A130, H⟩ := H
      replace H : ((laws_toTileS.f k l0).bind fun t603 => ((laws_toSetS.f k l3).bind fun t606 => ((impl_TurnLayout.f k t603 a1 a2 t606).bind fun bt609 => ((laws_eqSetS.f k bt609.1 t599).bind fun t613 => (if t613 = true then (laws_FnExactTurnLayout.j0 k l0 a1 a2 l3 t599 t600 t603 t606 bt609.1 bt609.2 (bt609.2 != t600)) else (laws_FnExactTurnLayout.j0 k l0 a1 a2 l3 t599 t600 t603 t606 bt609.1 bt609.2 true)))))) = some r := H
      have A13 := Aside0.mk A130
      clear A130
      have H0_ := Aside0.mk H
      clear H
      obtain ⟨Ao14, co14, eo14⟩ := Kd.R_slice HO595.out
      subst eo14
      obtain ⟨Ao15, co15, eo15⟩ := Kd.R_slice HO598.out
      subst eo15
      go_wp2_with (first | ((with_reducible refine gate_callee (f := 39) rfl ?_); refine goesL_ (some 38) rfl rfl Try.func39 (by kernel_rfl) rfl #[.slice Ao14 t593.length co14, .int .i64 a1, .int .i64 a2, .slice Ao15 t596.length co15] rfl (by (try simp only [List.map_toArray, List.map_cons, List.map_nil]); first | done | rfl | (simp only [List.length_drop, List.length_take]; rfl)) ?_; (with_reducible refine (spec_TurnLayout.calls k _ _ t593 a1 a2 _ _ t596 t599 t600 _ ?side1 ?side2 ?side3 ?side4 A13.out).mono ?_); (case side1 => repeat (first | exact (Kd.R_reads' HO595.out).2.2 | (with_reducible refine Kd.C_alloc ?_ _) | (with_reducible refine Kd.C_drewN ?_ _) | (with_reducible refine Kd.C_drew ?_))); (case side2 => exact (Kd.R_reads' HO595.out).2.1); (case side3 => repeat (first | exact (Kd.R_reads' HO598.out).2.2 | (with_reducible refine Kd.C_alloc ?_ _) | (with_reducible refine Kd.C_drewN ?_ _) | (with_reducible refine Kd.C_drew ?_))); (case side4 => exact (Kd.R_reads' HO598.out).2.1); rintro e w16 ⟨v601, rfl, ho0, hb⟩; refine ⟨_, rfl, ?_⟩; have n0_ := Aside0.mk (Kd.R_below (by (with_reducible repeat (first | apply Kd.R_alloc | apply Kd.R_drewN | apply Kd.R_drew)); exact HO595.out) hb); have n1_ := Aside0.mk (Kd.R_elder' (by (with_reducible repeat (first | apply Kd.R_alloc | apply Kd.R_drewN | apply Kd.R_drew)); exact HO598.out) (Kd.R_base ho0) hb); have n2_ := Aside0.mk (Kd.R_lower (Kd.R_new' ho0 (Kd.R_lt (by (with_reducible repeat (first | apply Kd.R_alloc | apply Kd.R_drewN | apply Kd.R_drew)); exact HO598.out))) (below_size (by repeat (first | (with_reducible first | exact HB.out | apply below_alloc | apply pw_below_drewN | apply below_drew1) | exact HB.out)))); have n3_ := Aside0.mk (below_step (by repeat (first | (with_reducible first | exact HB.out | apply below_alloc | apply pw_below_drewN | apply below_drew1) | exact HB.out)) hb); clear HO595; clear HO598; clear HB; have HO595 := n0_; have HO598 := n1_; have HO602 := n2_; have HB := n3_; clear n0_ n1_ n2_ n3_; (try clear hb); (try clear hb2); (try clear hk); (try clear hi); (try clear ho0); refine Stop0.out ?_))
      refine Stop0.mk ?_
      have H := H0_.out
      clear H0_
      replace H := Option.bind_eq_some_iff.mp H
      obtain ⟨t603, A170, H⟩ := H
      replace H : ((laws_toSetS.f k l3).bind fun t606 => ((impl_TurnLayout.f k t603 a1 a2 t606).bind fun bt609 => ((laws_eqSetS.f k bt609.1 t599).bind fun t613 => (if t613 = true then (laws_FnExactTurnLayout.j0 k l0 a1 a2 l3 t599 t600 t603 t606 bt609.1 bt609.2 (bt609.2 != t600)) else (laws_FnExactTurnLayout.j0 k l0 a1 a2 l3 t599 t600 t603 t606 bt609.1 bt609.2 true))))) = some r := H
      have A17 := Aside0.mk A170
      clear A170
      have H0_ := Aside0.mk H
      clear H
      go_wp2_with (first | ((with_reducible refine gate_callee (f := 19) rfl ?_); refine goesL_ (some 42) rfl rfl Try.func19 (by kernel_rfl) rfl #[.slice A0 l0.length c0] rfl (by (try simp only [List.map_toArray, List.map_cons, List.map_nil]); first | done | rfl | (simp only [List.length_drop, List.length_take]; rfl)) ?_; (with_reducible refine (laws_toTileS.calls k _ _ l0 t603 _ ?side1 ?side2 A17.out).mono ?_); (case side1 => repeat (first | exact (Kd.C_below HR0.out HB.out) | (with_reducible refine Kd.C_alloc ?_ _) | (with_reducible refine Kd.C_drewN ?_ _) | (with_reducible refine Kd.C_drew ?_))); (case side2 => exact HC0.out); rintro e w18 ⟨v604, rfl, ho0, hb⟩; refine ⟨_, rfl, ?_⟩; have n0_ := Aside0.mk (Kd.R_elder' (by (with_reducible repeat (first | apply Kd.R_alloc | apply Kd.R_drewN | apply Kd.R_drew)); exact HO595.out) (Kd.R_base ho0) hb); have n1_ := Aside0.mk (Kd.R_below (by (with_reducible repeat (first | apply Kd.R_alloc | apply Kd.R_drewN | apply Kd.R_drew)); exact HO598.out) hb); have n2_ := Aside0.mk (Kd.R_below (by (with_reducible repeat (first | apply Kd.R_alloc | apply Kd.R_drewN | apply Kd.R_drew)); exact HO602.out) hb); have n3_ := Aside0.mk (Kd.R_lower (Kd.R_new' ho0 (Kd.R_lt (by (with_reducible repeat (first | apply Kd.R_alloc | apply Kd.R_drewN | apply Kd.R_drew)); exact HO595.out))) (below_size (by repeat (first | (with_reducible first | exact HB.out | apply below_alloc | apply pw_below_drewN | apply below_drew1) | exact HB.out)))); have n4_ := Aside0.mk (below_step (by repeat (first | (with_reducible first | exact HB.out | apply below_alloc | apply pw_below_drewN | apply below_drew1) | exact HB.out)) hb); clear HO595; clear HO598; clear HO602; clear HB; have HO595 := n0_; have HO598 := n1_; have HO602 := n2_; have HO605 := n3_; have HB := n4_; clear n0_ n1_ n2_ n3_ n4_; (try clear hb); (try clear hb2); (try clear hk); (try clear hi); (try clear ho0); refine Stop0.out ?_))
      refine Stop0.mk ?_
      have H := H0_.out
      clear H0_
      replace H := Option.bind_eq_some_iff.mp H
      obtain ⟨t606, A190, H⟩ := H
      replace H : ((impl_TurnLayout.f k t603 a1 a2 t606).bind fun bt609 => ((laws_eqSetS.f k bt609.1 t599).bind fun t613 => (if t613 = true then (laws_FnExactTurnLayout.j0 k l0 a1 a2 l3 t599 t600 t603 t606 bt609.1 bt609.2 (bt609.2 != t600)) else (laws_FnExactTurnLayout.j0 k l0 a1 a2 l3 t599 t600 t603 t606 bt609.1 bt609.2 true)))) = some r := H
      have A19 := Aside0.mk A190
      clear A190
      have H0_ := Aside0.mk H
      clear H
      go_wp2_with (first | ((with_reducible refine gate_callee (f := 34) rfl ?_); refine goesL_ (some 44) rfl rfl Try.func34 (by kernel_rfl) rfl #[.slice A3 l3.length c3] rfl (by (try simp only [List.map_toArray, List.map_cons, List.map_nil]); first | done | rfl | (simp only [List.length_drop, List.length_take]; rfl)) ?_; (with_reducible refine (laws_toSetS.calls k _ _ l3 t606 _ ?side1 ?side2 A19.out).mono ?_); (case side1 => repeat (first | exact (Kd.C_below HR3.out HB.out) | (with_reducible refine Kd.C_alloc ?_ _) | (with_reducible refine Kd.C_drewN ?_ _) | (with_reducible refine Kd.C_drew ?_))); (case side2 => exact HC3.out); rintro e w20 ⟨v607, rfl, ho0, hb⟩; refine ⟨_, rfl, ?_⟩; have n0_ := Aside0.mk (Kd.R_below (by (with_reducible repeat (first | apply Kd.R_alloc | apply Kd.R_drewN | apply Kd.R_drew)); exact HO595.out) hb); have n1_ := Aside0.mk (Kd.R_elder' (by (with_reducible repeat (first | apply Kd.R_alloc | apply Kd.R_drewN | apply Kd.R_drew)); exact HO598.out) (Kd.R_base ho0) hb); have n2_ := Aside0.mk (Kd.R_elder' (by (with_reducible repeat (first | apply Kd.R_alloc | apply Kd.R_drewN | apply Kd.R_drew)); exact HO602.out) (Kd.R_base ho0) hb); have n3_ := Aside0.mk (Kd.R_below (by (with_reducible repeat (first | apply Kd.R_alloc | apply Kd.R_drewN | apply Kd.R_drew)); exact HO605.out) hb); have n4_ := Aside0.mk (Kd.R_lower (Kd.R_new' (Kd.R_new' ho0 (Kd.R_lt (by (with_reducible repeat (first | apply Kd.R_alloc | apply Kd.R_drewN | apply Kd.R_drew)); exact HO598.out))) (Kd.R_lt (by (with_reducible repeat (first | apply Kd.R_alloc | apply Kd.R_drewN | apply Kd.R_drew)); exact HO602.out))) (below_size (by repeat (first | (with_reducible first | exact HB.out | apply below_alloc | apply pw_below_drewN | apply below_drew1) | exact HB.out)))); have n5_ := Aside0.mk (below_step (by repeat (first | (with_reducible first | exact HB.out | apply below_alloc | apply pw_below_drewN | apply below_drew1) | exact HB.out)) hb); clear HO595; clear HO598; clear HO602; clear HO605; clear HB; have HO595 := n0_; have HO598 := n1_; have HO602 := n2_; have HO605 := n3_; have HO608 := n4_; have HB := n5_; clear n0_ n1_ n2_ n3_ n4_ n5_; (try clear hb); (try clear hb2); (try clear hk); (try clear hi); (try clear ho0); refine Stop0.out ?_))
      refine Stop0.mk ?_
      have H := H0_.out
      clear H0_
      replace H := Option.bind_eq_some_iff.mp H
      obtain ⟨⟨t609, t610⟩, A210, H⟩ := H
      replace H : ((laws_eqSetS.f k t609 t599).bind fun t613 => (if t613 = true then (laws_FnExactTurnLayout.j0 k l0 a1 a2 l3 t599 t600 t603 t606 t609 t610 (t610 != t600)) else (laws_FnExactTurnLayout.j0 k l0 a1 a2 l3 t599 t600 t603 t606 t609 t610 true))) = some r := H
      have A21 := Aside0.mk A210
      clear A210
      have H0_ := Aside0.mk H
      clear H
      obtain ⟨Ao22, co22, eo22⟩ := Kd.R_slice HO605.out
      subst eo22
      obtain ⟨Ao23, co23, eo23⟩ := Kd.R_slice HO608.out
      subst eo23
      go_wp2_with (first | ((with_reducible refine gate_callee (f := 40) rfl ?_); refine goesL_ (some 50) rfl rfl Try.func40 (by kernel_rfl) rfl #[.slice Ao22 t603.length co22, .int .i64 a1, .int .i64 a2, .slice Ao23 t606.length co23] rfl (by (try simp only [List.map_toArray, List.map_cons, List.map_nil]); first | done | rfl | (simp only [List.length_drop, List.length_take]; rfl)) ?_; (with_reducible refine (impl_TurnLayout.calls k _ _ t603 a1 a2 _ _ t606 t609 t610 _ ?side1 ?side2 ?side3 ?side4 A21.out).mono ?_); (case side1 => repeat (first | exact (Kd.R_reads' HO605.out).2.2 | (with_reducible refine Kd.C_alloc ?_ _) | (with_reducible refine Kd.C_drewN ?_ _) | (with_reducible refine Kd.C_drew ?_))); (case side2 => exact (Kd.R_reads' HO605.out).2.1); (case side3 => repeat (first | exact (Kd.R_reads' HO608.out).2.2 | (with_reducible refine Kd.C_alloc ?_ _) | (with_reducible refine Kd.C_drewN ?_ _) | (with_reducible refine Kd.C_drew ?_))); (case side4 => exact (Kd.R_reads' HO608.out).2.1); rintro e w24 ⟨v611, rfl, ho0, hb⟩; refine ⟨_, rfl, ?_⟩; have n0_ := Aside0.mk (Kd.R_below (by (with_reducible repeat (first | apply Kd.R_alloc | apply Kd.R_drewN | apply Kd.R_drew)); exact HO595.out) hb); have n1_ := Aside0.mk (Kd.R_elder' (by (with_reducible repeat (first | apply Kd.R_alloc | apply Kd.R_drewN | apply Kd.R_drew)); exact HO598.out) (Kd.R_base ho0) hb); have n2_ := Aside0.mk (Kd.R_elder' (by (with_reducible repeat (first | apply Kd.R_alloc | apply Kd.R_drewN | apply Kd.R_drew)); exact HO602.out) (Kd.R_base ho0) hb); have n3_ := Aside0.mk (Kd.R_below (by (with_reducible repeat (first | apply Kd.R_alloc | apply Kd.R_drewN | apply Kd.R_drew)); exact HO605.out) hb); have n4_ := Aside0.mk (Kd.R_elder' (by (with_reducible repeat (first | apply Kd.R_alloc | apply Kd.R_drewN | apply Kd.R_drew)); exact HO608.out) (Kd.R_base ho0) hb); have n5_ := Aside0.mk (Kd.R_lower (Kd.R_new' (Kd.R_new' (Kd.R_new' ho0 (Kd.R_lt (by (with_reducible repeat (first | apply Kd.R_alloc | apply Kd.R_drewN | apply Kd.R_drew)); exact HO598.out))) (Kd.R_lt (by (with_reducible repeat (first | apply Kd.R_alloc | apply Kd.R_drewN | apply Kd.R_drew)); exact HO602.out))) (Kd.R_lt (by (with_reducible repeat (first | apply Kd.R_alloc | apply Kd.R_drewN | apply Kd.R_drew)); exact HO608.out))) (below_size (by repeat (first | (with_reducible first | exact HB.out | apply below_alloc | apply pw_below_drewN | apply below_drew1) | exact HB.out)))); have n6_ := Aside0.mk (below_step (by repeat (first | (with_reducible first | exact HB.out | apply below_alloc | apply pw_below_drewN | apply below_drew1) | exact HB.out)) hb); clear HO595; clear HO598; clear HO602; clear HO605; clear HO608; clear HB; have HO595 := n0_; have HO598 := n1_; have HO602 := n2_; have HO605 := n3_; have HO608 := n4_; have HO612 := n5_; have HB := n6_; clear n0_ n1_ n2_ n3_ n4_ n5_ n6_; (try clear hb); (try clear hb2); (try clear hk); (try clear hi); (try clear ho0); refine Stop0.out ?_))
      refine Stop0.mk ?_
      have H := H0_.out
      clear H0_
      have HC25 := Aside0.mk H
      clear H
      go_upto_region 12 with (fail)
      go_cut [61] (fun v61 wc => ∃ (kq : Nat) (x61_24 : Bool), v61 = .bool x61_24 ∧ Aside0 (laws_FnExactTurnLayout.j0 kq l0 a1 a2 l3 t599 t600 t603 t606 t609 t610 x61_24 = some r) ∧ Aside0 (kq ≤ k) ∧ Aside0 (Kd.R k74 74 wc w.heap.size (fun k_ => some k_ ≠ ((.slice Ao23 t606.length co23) : Value).ownBlock ∧ some k_ ≠ (v611 : Value).ownBlock) v601 t599) ∧ Aside0 (Kd.R k24 24 wc w.heap.size (fun _ => True) (.slice Ao22 t603.length co22) t603) ∧ Aside0 (Kd.R k74 74 wc w.heap.size (fun k_ => some k_ ≠ (v601 : Value).ownBlock ∧ some k_ ≠ (v611 : Value).ownBlock) (.slice Ao23 t606.length co23) t606) ∧ Aside0 (Kd.R k74 74 wc w.heap.size (fun k_ => some k_ ≠ (v601 : Value).ownBlock ∧ some k_ ≠ ((.slice Ao23 t606.length co23) : Value).ownBlock) v611 t609) ∧ Aside0 (Below w.heap.size w wc))
      case first =>
        have H := HC25.out
        clear HC25
        replace H := Option.bind_eq_some_iff.mp H
        obtain ⟨t613, A260, H⟩ := H
        replace H : (if t613 = true then (laws_FnExactTurnLayout.j0 k l0 a1 a2 l3 t599 t600 t603 t606 t609 t610 (t610 != t600)) else (laws_FnExactTurnLayout.j0 k l0 a1 a2 l3 t599 t600 t603 t606 t609 t610 true)) = some r := H
        have A26 := Aside0.mk A260
        clear A260
        by_cases c27 : t613 = true
        · subst c27
          have H1 : (laws_FnExactTurnLayout.j0 k l0 a1 a2 l3 t599 t600 t603 t606 t609 t610 (t610 != t600)) = some r := by rw [if_pos rfl] at H; exact H
          clear H
          have H := H1
          clear H1
          have H' := Aside0.mk H
          clear H
          obtain ⟨Ao28, co28, eo28⟩ := Kd.R_slice HO612.out
          subst eo28
          obtain ⟨Ao29, co29, eo29⟩ := Kd.R_slice HO602.out
          subst eo29
          go_wp2_with (first | ((with_reducible refine gate_callee (f := 36) rfl ?_); refine goesL_ (some 55) rfl rfl Try.func36 (by kernel_rfl) rfl #[.slice Ao28 t609.length co28, .slice Ao29 t599.length co29] rfl (by (try simp only [List.map_toArray, List.map_cons, List.map_nil]); first | done | rfl | (simp only [List.length_drop, List.length_take]; rfl)) ?_; (with_reducible refine (laws_eqSetS.calls k _ _ t609 _ _ t599 true _ ?side1 ?side2 ?side3 ?side4 A26.out).mono ?_); (case side1 => repeat (first | exact (Kd.R_reads' HO612.out).2.2 | (with_reducible refine Kd.C_alloc ?_ _) | (with_reducible refine Kd.C_drewN ?_ _) | (with_reducible refine Kd.C_drew ?_))); (case side2 => exact (Kd.R_reads' HO612.out).2.1); (case side3 => repeat (first | exact (Kd.R_reads' HO602.out).2.2 | (with_reducible refine Kd.C_alloc ?_ _) | (with_reducible refine Kd.C_drewN ?_ _) | (with_reducible refine Kd.C_drew ?_))); (case side4 => exact (Kd.R_reads' HO602.out).2.1); rintro e w30 ⟨rfl, hb⟩; refine ⟨_, rfl, ?_⟩; have n0_ := Aside0.mk (Kd.R_below (by (with_reducible repeat (first | apply Kd.R_alloc | apply Kd.R_drewN | apply Kd.R_drew)); exact HO595.out) hb); have n1_ := Aside0.mk (Kd.R_below (by (with_reducible repeat (first | apply Kd.R_alloc | apply Kd.R_drewN | apply Kd.R_drew)); exact HO598.out) hb); have n2_ := Aside0.mk (Kd.R_below (by (with_reducible repeat (first | apply Kd.R_alloc | apply Kd.R_drewN | apply Kd.R_drew)); exact HO602.out) hb); have n3_ := Aside0.mk (Kd.R_below (by (with_reducible repeat (first | apply Kd.R_alloc | apply Kd.R_drewN | apply Kd.R_drew)); exact HO605.out) hb); have n4_ := Aside0.mk (Kd.R_below (by (with_reducible repeat (first | apply Kd.R_alloc | apply Kd.R_drewN | apply Kd.R_drew)); exact HO608.out) hb); have n5_ := Aside0.mk (Kd.R_below (by (with_reducible repeat (first | apply Kd.R_alloc | apply Kd.R_drewN | apply Kd.R_drew)); exact HO612.out) hb); have n6_ := Aside0.mk (below_step (by repeat (first | (with_reducible first | exact HB.out | apply below_alloc | apply pw_below_drewN | apply below_drew1) | exact HB.out)) hb); clear HO595; clear HO598; clear HO602; clear HO605; clear HO608; clear HO612; clear HB; have HO595 := n0_; have HO598 := n1_; have HO602 := n2_; have HO605 := n3_; have HO608 := n4_; have HO612 := n5_; have HB := n6_; clear n0_ n1_ n2_ n3_ n4_ n5_ n6_; (try clear hb); (try clear hb2); (try clear hk); (try clear hi)))
          go_meet
          case rel => exact ⟨_, ((t610 != t600)), (by first | rfl | (simp; done) | (simp [*]; done)), H', ⟨by first | omega | exact Nat.le_refl _⟩, ⟨by (with_reducible repeat (first | apply Kd.R_alloc | apply Kd.R_drewN | apply Kd.R_drew)); exact Kd.R_mono HO602.out (fun _ hk => ⟨hk.1.2, hk.2⟩)⟩, ⟨by (with_reducible repeat (first | apply Kd.R_alloc | apply Kd.R_drewN | apply Kd.R_drew)); exact Kd.R_mono HO605.out (fun _ hk => trivial)⟩, ⟨by (with_reducible repeat (first | apply Kd.R_alloc | apply Kd.R_drewN | apply Kd.R_drew)); exact Kd.R_mono HO608.out (fun _ hk => ⟨hk.1.2, hk.2⟩)⟩, ⟨by (with_reducible repeat (first | apply Kd.R_alloc | apply Kd.R_drewN | apply Kd.R_drew)); exact Kd.R_mono HO612.out (fun _ hk => ⟨hk.1.2, hk.2⟩)⟩, ⟨by repeat (first | (with_reducible first | exact HB.out | apply below_alloc | apply pw_below_drewN | apply below_drew1) | exact HB.out)⟩⟩
        · replace c27 := Bool.eq_false_iff.mpr c27
          subst c27
          have H1 : (laws_FnExactTurnLayout.j0 k l0 a1 a2 l3 t599 t600 t603 t606 t609 t610 true) = some r := by rw [if_neg (show ¬ (false = true) by decide)] at H; exact H
          clear H
          have H := H1
          clear H1
          have H' := Aside0.mk H
          clear H
          obtain ⟨Ao31, co31, eo31⟩ := Kd.R_slice HO612.out
          subst eo31
          obtain ⟨Ao32, co32, eo32⟩ := Kd.R_slice HO602.out
          subst eo32
          go_wp2_with (first | ((with_reducible refine gate_callee (f := 36) rfl ?_); refine goesL_ (some 55) rfl rfl Try.func36 (by kernel_rfl) rfl #[.slice Ao31 t609.length co31, .slice Ao32 t599.length co32] rfl (by (try simp only [List.map_toArray, List.map_cons, List.map_nil]); first | done | rfl | (simp only [List.length_drop, List.length_take]; rfl)) ?_; (with_reducible refine (laws_eqSetS.calls k _ _ t609 _ _ t599 false _ ?side1 ?side2 ?side3 ?side4 A26.out).mono ?_); (case side1 => repeat (first | exact (Kd.R_reads' HO612.out).2.2 | (with_reducible refine Kd.C_alloc ?_ _) | (with_reducible refine Kd.C_drewN ?_ _) | (with_reducible refine Kd.C_drew ?_))); (case side2 => exact (Kd.R_reads' HO612.out).2.1); (case side3 => repeat (first | exact (Kd.R_reads' HO602.out).2.2 | (with_reducible refine Kd.C_alloc ?_ _) | (with_reducible refine Kd.C_drewN ?_ _) | (with_reducible refine Kd.C_drew ?_))); (case side4 => exact (Kd.R_reads' HO602.out).2.1); rintro e w33 ⟨rfl, hb⟩; refine ⟨_, rfl, ?_⟩; have n0_ := Aside0.mk (Kd.R_below (by (with_reducible repeat (first | apply Kd.R_alloc | apply Kd.R_drewN | apply Kd.R_drew)); exact HO595.out) hb); have n1_ := Aside0.mk (Kd.R_below (by (with_reducible repeat (first | apply Kd.R_alloc | apply Kd.R_drewN | apply Kd.R_drew)); exact HO598.out) hb); have n2_ := Aside0.mk (Kd.R_below (by (with_reducible repeat (first | apply Kd.R_alloc | apply Kd.R_drewN | apply Kd.R_drew)); exact HO602.out) hb); have n3_ := Aside0.mk (Kd.R_below (by (with_reducible repeat (first | apply Kd.R_alloc | apply Kd.R_drewN | apply Kd.R_drew)); exact HO605.out) hb); have n4_ := Aside0.mk (Kd.R_below (by (with_reducible repeat (first | apply Kd.R_alloc | apply Kd.R_drewN | apply Kd.R_drew)); exact HO608.out) hb); have n5_ := Aside0.mk (Kd.R_below (by (with_reducible repeat (first | apply Kd.R_alloc | apply Kd.R_drewN | apply Kd.R_drew)); exact HO612.out) hb); have n6_ := Aside0.mk (below_step (by repeat (first | (with_reducible first | exact HB.out | apply below_alloc | apply pw_below_drewN | apply below_drew1) | exact HB.out)) hb); clear HO595; clear HO598; clear HO602; clear HO605; clear HO608; clear HO612; clear HB; have HO595 := n0_; have HO598 := n1_; have HO602 := n2_; have HO605 := n3_; have HO608 := n4_; have HO612 := n5_; have HB := n6_; clear n0_ n1_ n2_ n3_ n4_ n5_ n6_; (try clear hb); (try clear hb2); (try clear hk); (try clear hi)))
          go_meet
          case rel => exact ⟨_, (true), (by first | rfl | (simp; done) | (simp [*]; done)), H', ⟨by first | omega | exact Nat.le_refl _⟩, ⟨by (with_reducible repeat (first | apply Kd.R_alloc | apply Kd.R_drewN | apply Kd.R_drew)); exact Kd.R_mono HO602.out (fun _ hk => ⟨hk.1.2, hk.2⟩)⟩, ⟨by (with_reducible repeat (first | apply Kd.R_alloc | apply Kd.R_drewN | apply Kd.R_drew)); exact Kd.R_mono HO605.out (fun _ hk => trivial)⟩, ⟨by (with_reducible repeat (first | apply Kd.R_alloc | apply Kd.R_drewN | apply Kd.R_drew)); exact Kd.R_mono HO608.out (fun _ hk => ⟨hk.1.2, hk.2⟩)⟩, ⟨by (with_reducible repeat (first | apply Kd.R_alloc | apply Kd.R_drewN | apply Kd.R_drew)); exact Kd.R_mono HO612.out (fun _ hk => ⟨hk.1.2, hk.2⟩)⟩, ⟨by repeat (first | (with_reducible first | exact HB.out | apply below_alloc | apply pw_below_drewN | apply below_drew1) | exact HB.out)⟩⟩
      case rest =>
        clear HC25
        try clear c1
        try clear c2
        try clear p2
        try clear c3
        try clear c4
        try clear c6
        try clear c6b0
        try clear c8
        try clear c8b0
        try clear c9
        try clear c17
        try clear c19
        try clear c27
        try clear c32
        obtain ⟨kq, x61_24, rfl, HA, HJ24, HO_10, HO_12, HO_13, HO_14, HB⟩ := hcut
        cases kq with
        | zero => exact absurd HA.out (by simp [laws_FnExactTurnLayout.j0])
        | succ kj24 =>
          have H := HA.out
          clear HA
          simp only [laws_FnExactTurnLayout.j0] at H
          by_cases c34 : x61_24 = true
          · subst c34
            have H1 : (some false) = some r := by rw [if_pos rfl] at H; exact H
            clear H
            have H := H1
            clear H1
            obtain rfl := Option.some.inj H
            go_wp2
            go_ret
            exact ⟨by first | rfl | (simp [errW_none, errW_some] <;> rfl) | (simp [*, errW_none, errW_some] <;> rfl), by repeat (first | (with_reducible first | exact HB.out | apply below_alloc | apply pw_below_drewN | apply below_drew1) | exact HB.out)⟩
          · replace c34 := Bool.eq_false_iff.mpr c34
            subst c34
            have H1 : ((laws_toTileS.f kj24 l0).bind fun t614 => ((laws_eqTileS.f kj24 t603 t614).bind fun t617 => (if t617 = true then ((laws_toSetS.f kj24 l3).bind fun t618 => ((laws_eqSetS.f kj24 t606 t618).bind fun t621 => (if t621 = true then ((laws_markTileS.f kj24 t603 1).bind fun bt622 => ((laws_markSetS.f kj24 t606 bt622.1).bind fun bt624 => (if bt624.1 < 0 then (laws_FnExactTurnLayout.j1 kj24 l0 a1 a2 l3 t599 t600 t609 true) else ((laws_eqSetS.f kj24 t609 t599).bind fun t626 => (if t626 = true then (laws_FnExactTurnLayout.j1 kj24 l0 a1 a2 l3 t599 t600 t609 (t610 != t600)) else (laws_FnExactTurnLayout.j1 kj24 l0 a1 a2 l3 t599 t600 t609 true)))))) else (some false)))) else (some false)))) = some r := by rw [if_neg (show ¬ (false = true) by decide)] at H; exact H
            clear H
            have H := H1
            clear H1
            replace H := Option.bind_eq_some_iff.mp H
            obtain ⟨t614, A350, H⟩ := H
            replace H : ((laws_eqTileS.f kj24 t603 t614).bind fun t617 => (if t617 = true then ((laws_toSetS.f kj24 l3).bind fun t618 => ((laws_eqSetS.f kj24 t606 t618).bind fun t621 => (if t621 = true then ((laws_markTileS.f kj24 t603 1).bind fun bt622 => ((laws_markSetS.f kj24 t606 bt622.1).bind fun bt624 => (if bt624.1 < 0 then (laws_FnExactTurnLayout.j1 kj24 l0 a1 a2 l3 t599 t600 t609 true) else ((laws_eqSetS.f kj24 t609 t599).bind fun t626 => (if t626 = true then (laws_FnExactTurnLayout.j1 kj24 l0 a1 a2 l3 t599 t600 t609 (t610 != t600)) else (laws_FnExactTurnLayout.j1 kj24 l0 a1 a2 l3 t599 t600 t609 true)))))) else (some false)))) else (some false))) = some r := H
            have A35 := Aside0.mk A350
            clear A350
            have H0_ := Aside0.mk H
            clear H
            go_wp2_with (first | ((with_reducible refine gate_callee (f := 19) rfl ?_); refine goesL_ (some 64) rfl rfl Try.func19 (by kernel_rfl) rfl #[.slice A0 l0.length c0] rfl (by (try simp only [List.map_toArray, List.map_cons, List.map_nil]); first | done | rfl | (simp only [List.length_drop, List.length_take]; rfl)) ?_; (with_reducible refine (laws_toTileS.calls kj24 _ _ l0 t614 _ ?side1 ?side2 A35.out).mono ?_); (case side1 => repeat (first | exact (Kd.C_below HR0.out HB.out) | (with_reducible refine Kd.C_alloc ?_ _) | (with_reducible refine Kd.C_drewN ?_ _) | (with_reducible refine Kd.C_drew ?_))); (case side2 => exact HC0.out); rintro e w36 ⟨v615, rfl, ho0, hb⟩; refine ⟨_, rfl, ?_⟩; have n0_ := Aside0.mk (Kd.R_below (by (with_reducible repeat (first | apply Kd.R_alloc | apply Kd.R_drewN | apply Kd.R_drew)); exact HO_10.out) hb); have n1_ := Aside0.mk (Kd.R_elder' (by (with_reducible repeat (first | apply Kd.R_alloc | apply Kd.R_drewN | apply Kd.R_drew)); exact HO_12.out) (Kd.R_base ho0) hb); have n2_ := Aside0.mk (Kd.R_below (by (with_reducible repeat (first | apply Kd.R_alloc | apply Kd.R_drewN | apply Kd.R_drew)); exact HO_13.out) hb); have n3_ := Aside0.mk (Kd.R_below (by (with_reducible repeat (first | apply Kd.R_alloc | apply Kd.R_drewN | apply Kd.R_drew)); exact HO_14.out) hb); have n4_ := Aside0.mk (Kd.R_lower (Kd.R_new' ho0 (Kd.R_lt (by (with_reducible repeat (first | apply Kd.R_alloc | apply Kd.R_drewN | apply Kd.R_drew)); exact HO_12.out))) (below_size (by repeat (first | (with_reducible first | exact HB.out | apply below_alloc | apply pw_below_drewN | apply below_drew1) | exact HB.out)))); have n5_ := Aside0.mk (below_step (by repeat (first | (with_reducible first | exact HB.out | apply below_alloc | apply pw_below_drewN | apply below_drew1) | exact HB.out)) hb); clear HO_10; clear HO_12; clear HO_13; clear HO_14; clear HB; have HO_10 := n0_; have HO_12 := n1_; have HO_13 := n2_; have HO_14 := n3_; have HO616 := n4_; have HB := n5_; clear n0_ n1_ n2_ n3_ n4_ n5_; (try clear hb); (try clear hb2); (try clear hk); (try clear hi); (try clear ho0); refine Stop0.out ?_))
            refine Stop0.mk ?_
            have H := H0_.out
            clear H0_
            replace H := Option.bind_eq_some_iff.mp H
            obtain ⟨t617, A370, H⟩ := H
            replace H : (if t617 = true then ((laws_toSetS.f kj24 l3).bind fun t618 => ((laws_eqSetS.f kj24 t606 t618).bind fun t621 => (if t621 = true then ((laws_markTileS.f kj24 t603 1).bind fun bt622 => ((laws_markSetS.f kj24 t606 bt622.1).bind fun bt624 => (if bt624.1 < 0 then (laws_FnExactTurnLayout.j1 kj24 l0 a1 a2 l3 t599 t600 t609 true) else ((laws_eqSetS.f kj24 t609 t599).bind fun t626 => (if t626 = true then (laws_FnExactTurnLayout.j1 kj24 l0 a1 a2 l3 t599 t600 t609 (t610 != t600)) else (laws_FnExactTurnLayout.j1 kj24 l0 a1 a2 l3 t599 t600 t609 true)))))) else (some false)))) else (some false)) = some r := H
            have A37 := Aside0.mk A370
            clear A370
            have H0_ := Aside0.mk H
            clear H
            obtain ⟨Ao38, co38, eo38⟩ := Kd.R_slice HO616.out
            subst eo38
            go_wp2_with (first | ((with_reducible refine gate_callee (f := 21) rfl ?_); refine goesL_ (some 65) rfl rfl Try.func21 (by kernel_rfl) rfl #[.slice Ao22 t603.length co22, .slice Ao38 t614.length co38] rfl (by (try simp only [List.map_toArray, List.map_cons, List.map_nil]); first | done | rfl | (simp only [List.length_drop, List.length_take]; rfl)) ?_; (with_reducible refine (laws_eqTileS.calls kj24 _ _ t603 _ _ t614 t617 _ ?side1 ?side2 ?side3 ?side4 A37.out).mono ?_); (case side1 => repeat (first | exact (Kd.R_reads' HO_12.out).2.2 | (with_reducible refine Kd.C_alloc ?_ _) | (with_reducible refine Kd.C_drewN ?_ _) | (with_reducible refine Kd.C_drew ?_))); (case side2 => exact (Kd.R_reads' HO_12.out).2.1); (case side3 => repeat (first | exact (Kd.R_reads' HO616.out).2.2 | (with_reducible refine Kd.C_alloc ?_ _) | (with_reducible refine Kd.C_drewN ?_ _) | (with_reducible refine Kd.C_drew ?_))); (case side4 => exact (Kd.R_reads' HO616.out).2.1); rintro e w39 ⟨rfl, hb⟩; refine ⟨_, rfl, ?_⟩; have n0_ := Aside0.mk (Kd.R_below (by (with_reducible repeat (first | apply Kd.R_alloc | apply Kd.R_drewN | apply Kd.R_drew)); exact HO_10.out) hb); have n1_ := Aside0.mk (Kd.R_below (by (with_reducible repeat (first | apply Kd.R_alloc | apply Kd.R_drewN | apply Kd.R_drew)); exact HO_12.out) hb); have n2_ := Aside0.mk (Kd.R_below (by (with_reducible repeat (first | apply Kd.R_alloc | apply Kd.R_drewN | apply Kd.R_drew)); exact HO_13.out) hb); have n3_ := Aside0.mk (Kd.R_below (by (with_reducible repeat (first | apply Kd.R_alloc | apply Kd.R_drewN | apply Kd.R_drew)); exact HO_14.out) hb); have n4_ := Aside0.mk (Kd.R_below (by (with_reducible repeat (first | apply Kd.R_alloc | apply Kd.R_drewN | apply Kd.R_drew)); exact HO616.out) hb); have n5_ := Aside0.mk (below_step (by repeat (first | (with_reducible first | exact HB.out | apply below_alloc | apply pw_below_drewN | apply below_drew1) | exact HB.out)) hb); clear HO_10; clear HO_12; clear HO_13; clear HO_14; clear HO616; clear HB; have HO_10 := n0_; have HO_12 := n1_; have HO_13 := n2_; have HO_14 := n3_; have HO616 := n4_; have HB := n5_; clear n0_ n1_ n2_ n3_ n4_ n5_; (try clear hb); (try clear hb2); (try clear hk); (try clear hi); refine Stop0.out ?_))
            refine Stop0.mk ?_
            have H := H0_.out
            clear H0_
            by_cases c40 : t617 = true
            · subst c40
              have H1 : ((laws_toSetS.f kj24 l3).bind fun t618 => ((laws_eqSetS.f kj24 t606 t618).bind fun t621 => (if t621 = true then ((laws_markTileS.f kj24 t603 1).bind fun bt622 => ((laws_markSetS.f kj24 t606 bt622.1).bind fun bt624 => (if bt624.1 < 0 then (laws_FnExactTurnLayout.j1 kj24 l0 a1 a2 l3 t599 t600 t609 true) else ((laws_eqSetS.f kj24 t609 t599).bind fun t626 => (if t626 = true then (laws_FnExactTurnLayout.j1 kj24 l0 a1 a2 l3 t599 t600 t609 (t610 != t600)) else (laws_FnExactTurnLayout.j1 kj24 l0 a1 a2 l3 t599 t600 t609 true)))))) else (some false)))) = some r := by rw [if_pos rfl] at H; exact H
              clear H
              have H := H1
              clear H1
              replace H := Option.bind_eq_some_iff.mp H
              obtain ⟨t618, A410, H⟩ := H
              replace H : ((laws_eqSetS.f kj24 t606 t618).bind fun t621 => (if t621 = true then ((laws_markTileS.f kj24 t603 1).bind fun bt622 => ((laws_markSetS.f kj24 t606 bt622.1).bind fun bt624 => (if bt624.1 < 0 then (laws_FnExactTurnLayout.j1 kj24 l0 a1 a2 l3 t599 t600 t609 true) else ((laws_eqSetS.f kj24 t609 t599).bind fun t626 => (if t626 = true then (laws_FnExactTurnLayout.j1 kj24 l0 a1 a2 l3 t599 t600 t609 (t610 != t600)) else (laws_FnExactTurnLayout.j1 kj24 l0 a1 a2 l3 t599 t600 t609 true)))))) else (some false))) = some r := H
              have A41 := Aside0.mk A410
              clear A410
              have H0_ := Aside0.mk H
              clear H
              go_wp2_with (first | ((with_reducible refine gate_callee (f := 34) rfl ?_); refine goesL_ (some 69) rfl rfl Try.func34 (by kernel_rfl) rfl #[.slice A3 l3.length c3] rfl (by (try simp only [List.map_toArray, List.map_cons, List.map_nil]); first | done | rfl | (simp only [List.length_drop, List.length_take]; rfl)) ?_; (with_reducible refine (laws_toSetS.calls kj24 _ _ l3 t618 _ ?side1 ?side2 A41.out).mono ?_); (case side1 => repeat (first | exact (Kd.C_below HR3.out HB.out) | (with_reducible refine Kd.C_alloc ?_ _) | (with_reducible refine Kd.C_drewN ?_ _) | (with_reducible refine Kd.C_drew ?_))); (case side2 => exact HC3.out); rintro e w42 ⟨v619, rfl, ho0, hb⟩; refine ⟨_, rfl, ?_⟩; have n0_ := Aside0.mk (Kd.R_elder' (by (with_reducible repeat (first | apply Kd.R_alloc | apply Kd.R_drewN | apply Kd.R_drew)); exact HO_10.out) (Kd.R_base ho0) hb); have n1_ := Aside0.mk (Kd.R_below (by (with_reducible repeat (first | apply Kd.R_alloc | apply Kd.R_drewN | apply Kd.R_drew)); exact HO_12.out) hb); have n2_ := Aside0.mk (Kd.R_elder' (by (with_reducible repeat (first | apply Kd.R_alloc | apply Kd.R_drewN | apply Kd.R_drew)); exact HO_13.out) (Kd.R_base ho0) hb); have n3_ := Aside0.mk (Kd.R_elder' (by (with_reducible repeat (first | apply Kd.R_alloc | apply Kd.R_drewN | apply Kd.R_drew)); exact HO_14.out) (Kd.R_base ho0) hb); have n4_ := Aside0.mk (Kd.R_below (by (with_reducible repeat (first | apply Kd.R_alloc | apply Kd.R_drewN | apply Kd.R_drew)); exact HO616.out) hb); have n5_ := Aside0.mk (Kd.R_lower (Kd.R_new' (Kd.R_new' (Kd.R_new' ho0 (Kd.R_lt (by (with_reducible repeat (first | apply Kd.R_alloc | apply Kd.R_drewN | apply Kd.R_drew)); exact HO_10.out))) (Kd.R_lt (by (with_reducible repeat (first | apply Kd.R_alloc | apply Kd.R_drewN | apply Kd.R_drew)); exact HO_13.out))) (Kd.R_lt (by (with_reducible repeat (first | apply Kd.R_alloc | apply Kd.R_drewN | apply Kd.R_drew)); exact HO_14.out))) (below_size (by repeat (first | (with_reducible first | exact HB.out | apply below_alloc | apply pw_below_drewN | apply below_drew1) | exact HB.out)))); have n6_ := Aside0.mk (below_step (by repeat (first | (with_reducible first | exact HB.out | apply below_alloc | apply pw_below_drewN | apply below_drew1) | exact HB.out)) hb); clear HO_10; clear HO_12; clear HO_13; clear HO_14; clear HO616; clear HB; have HO_10 := n0_; have HO_12 := n1_; have HO_13 := n2_; have HO_14 := n3_; have HO616 := n4_; have HO620 := n5_; have HB := n6_; clear n0_ n1_ n2_ n3_ n4_ n5_ n6_; (try clear hb); (try clear hb2); (try clear hk); (try clear hi); (try clear ho0); refine Stop0.out ?_))
              refine Stop0.mk ?_
              have H := H0_.out
              clear H0_
              replace H := Option.bind_eq_some_iff.mp H
              obtain ⟨t621, A430, H⟩ := H
              replace H : (if t621 = true then ((laws_markTileS.f kj24 t603 1).bind fun bt622 => ((laws_markSetS.f kj24 t606 bt622.1).bind fun bt624 => (if bt624.1 < 0 then (laws_FnExactTurnLayout.j1 kj24 l0 a1 a2 l3 t599 t600 t609 true) else ((laws_eqSetS.f kj24 t609 t599).bind fun t626 => (if t626 = true then (laws_FnExactTurnLayout.j1 kj24 l0 a1 a2 l3 t599 t600 t609 (t610 != t600)) else (laws_FnExactTurnLayout.j1 kj24 l0 a1 a2 l3 t599 t600 t609 true)))))) else (some false)) = some r := H
              have A43 := Aside0.mk A430
              clear A430
              have H0_ := Aside0.mk H
              clear H
              obtain ⟨Ao44, co44, eo44⟩ := Kd.R_slice HO620.out
              subst eo44
              go_wp2_with (first | ((with_reducible refine gate_callee (f := 36) rfl ?_); refine goesL_ (some 70) rfl rfl Try.func36 (by kernel_rfl) rfl #[.slice Ao23 t606.length co23, .slice Ao44 t618.length co44] rfl (by (try simp only [List.map_toArray, List.map_cons, List.map_nil]); first | done | rfl | (simp only [List.length_drop, List.length_take]; rfl)) ?_; (with_reducible refine (laws_eqSetS.calls kj24 _ _ t606 _ _ t618 t621 _ ?side1 ?side2 ?side3 ?side4 A43.out).mono ?_); (case side1 => repeat (first | exact (Kd.R_reads' HO_13.out).2.2 | (with_reducible refine Kd.C_alloc ?_ _) | (with_reducible refine Kd.C_drewN ?_ _) | (with_reducible refine Kd.C_drew ?_))); (case side2 => exact (Kd.R_reads' HO_13.out).2.1); (case side3 => repeat (first | exact (Kd.R_reads' HO620.out).2.2 | (with_reducible refine Kd.C_alloc ?_ _) | (with_reducible refine Kd.C_drewN ?_ _) | (with_reducible refine Kd.C_drew ?_))); (case side4 => exact (Kd.R_reads' HO620.out).2.1); rintro e w45 ⟨rfl, hb⟩; refine ⟨_, rfl, ?_⟩; have n0_ := Aside0.mk (Kd.R_below (by (with_reducible repeat (first | apply Kd.R_alloc | apply Kd.R_drewN | apply Kd.R_drew)); exact HO_10.out) hb); have n1_ := Aside0.mk (Kd.R_below (by (with_reducible repeat (first | apply Kd.R_alloc | apply Kd.R_drewN | apply Kd.R_drew)); exact HO_12.out) hb); have n2_ := Aside0.mk (Kd.R_below (by (with_reducible repeat (first | apply Kd.R_alloc | apply Kd.R_drewN | apply Kd.R_drew)); exact HO_13.out) hb); have n3_ := Aside0.mk (Kd.R_below (by (with_reducible repeat (first | apply Kd.R_alloc | apply Kd.R_drewN | apply Kd.R_drew)); exact HO_14.out) hb); have n4_ := Aside0.mk (Kd.R_below (by (with_reducible repeat (first | apply Kd.R_alloc | apply Kd.R_drewN | apply Kd.R_drew)); exact HO616.out) hb); have n5_ := Aside0.mk (Kd.R_below (by (with_reducible repeat (first | apply Kd.R_alloc | apply Kd.R_drewN | apply Kd.R_drew)); exact HO620.out) hb); have n6_ := Aside0.mk (below_step (by repeat (first | (with_reducible first | exact HB.out | apply below_alloc | apply pw_below_drewN | apply below_drew1) | exact HB.out)) hb); clear HO_10; clear HO_12; clear HO_13; clear HO_14; clear HO616; clear HO620; clear HB; have HO_10 := n0_; have HO_12 := n1_; have HO_13 := n2_; have HO_14 := n3_; have HO616 := n4_; have HO620 := n5_; have HB := n6_; clear n0_ n1_ n2_ n3_ n4_ n5_ n6_; (try clear hb); (try clear hb2); (try clear hk); (try clear hi); refine Stop0.out ?_))
              refine Stop0.mk ?_
              have H := H0_.out
              clear H0_
              by_cases c46 : t621 = true
              · subst c46
                have H1 : ((laws_markTileS.f kj24 t603 1).bind fun bt622 => ((laws_markSetS.f kj24 t606 bt622.1).bind fun bt624 => (if bt624.1 < 0 then (laws_FnExactTurnLayout.j1 kj24 l0 a1 a2 l3 t599 t600 t609 true) else ((laws_eqSetS.f kj24 t609 t599).bind fun t626 => (if t626 = true then (laws_FnExactTurnLayout.j1 kj24 l0 a1 a2 l3 t599 t600 t609 (t610 != t600)) else (laws_FnExactTurnLayout.j1 kj24 l0 a1 a2 l3 t599 t600 t609 true)))))) = some r := by rw [if_pos rfl] at H; exact H
                clear H
                have H := H1
                clear H1
                replace H := Option.bind_eq_some_iff.mp H
                obtain ⟨⟨t622, t623⟩, A470, H⟩ := H
                replace H : ((laws_markSetS.f kj24 t606 t622).bind fun bt624 => (if bt624.1 < 0 then (laws_FnExactTurnLayout.j1 kj24 l0 a1 a2 l3 t599 t600 t609 true) else ((laws_eqSetS.f kj24 t609 t599).bind fun t626 => (if t626 = true then (laws_FnExactTurnLayout.j1 kj24 l0 a1 a2 l3 t599 t600 t609 (t610 != t600)) else (laws_FnExactTurnLayout.j1 kj24 l0 a1 a2 l3 t599 t600 t609 true))))) = some r := H
                have A47 := Aside0.mk A470
                clear A470
                have H0_ := Aside0.mk H
                clear H
                go_wp2_with (first | ((with_reducible refine gate_callee (f := 25) rfl ?_); refine goesL_ (some 74) rfl rfl Try.func25 (by kernel_rfl) rfl #[.slice Ao22 t603.length co22, .int .i64 1] rfl (by (try simp only [List.map_toArray, List.map_cons, List.map_nil]); first | done | rfl | (simp only [List.length_drop, List.length_take]; rfl)) ?_; (with_reducible refine (laws_markTileS.calls kj24 (fun k_ => some k_ = (.slice Ao22 t603.length co22 : Value).ownBlock) (.slice Ao22 t603.length co22) t603 1 t622 t623 w _ ?side1 ?side2 A47.out).mono ?_); (case side1 => repeat (first | (with_reducible first | exact HB.out | apply below_alloc | apply pw_below_drewN | apply below_drew1) | exact HB.out)); (case side2 => exact Kd.R_tight rfl HO_12.out); rintro e w48 ⟨rfl, hy0, hb, hkp⟩; refine ⟨_, rfl, ?_⟩; have n0_ := Aside0.mk (Kd.R_mono (ok' := fun k_ => some k_ ≠ (.slice Ao23 t606.length co23 : Value).ownBlock ∧ some k_ ≠ (v611 : Value).ownBlock ∧ some k_ ≠ (.slice Ao44 t618.length co44 : Value).ownBlock) (Kd.R_keptB ((Kd.R_apart' HO_10.out (Kd.R_typed HO_12.out) (by decide))) hkp (fun k_ hk_ hs_ => (hk_.2) hs_)) (fun k_ hk_ => ⟨hk_.1.1.1.1, hk_.1.1.1.2, hk_.1.1.2⟩)); have n1_ := Aside0.mk (Kd.R_reok rfl hy0 (fun k_ e_ => HO_12.out.1 k_ e_)); have n2_ := Aside0.mk (Kd.R_mono (ok' := fun k_ => some k_ ≠ (v601 : Value).ownBlock ∧ some k_ ≠ (v611 : Value).ownBlock ∧ some k_ ≠ (.slice Ao44 t618.length co44 : Value).ownBlock) (Kd.R_keptB ((Kd.R_apart' HO_13.out (Kd.R_typed HO_12.out) (by decide))) hkp (fun k_ hk_ hs_ => (hk_.2) hs_)) (fun k_ hk_ => ⟨hk_.1.1.1.1, hk_.1.1.1.2, hk_.1.1.2⟩)); have n3_ := Aside0.mk (Kd.R_mono (ok' := fun k_ => some k_ ≠ (v601 : Value).ownBlock ∧ some k_ ≠ (.slice Ao23 t606.length co23 : Value).ownBlock ∧ some k_ ≠ (.slice Ao44 t618.length co44 : Value).ownBlock) (Kd.R_keptB ((Kd.R_apart' HO_14.out (Kd.R_typed HO_12.out) (by decide))) hkp (fun k_ hk_ hs_ => (hk_.2) hs_)) (fun k_ hk_ => ⟨hk_.1.1.1.1, hk_.1.1.1.2, hk_.1.1.2⟩)); have n4_ := Aside0.mk (Kd.R_mono (ok' := fun k_ => some k_ ≠ (.slice Ao22 t603.length co22 : Value).ownBlock) (Kd.R_keptB (HO616.out) hkp (fun k_ hk_ hs_ => (hk_.2) hs_)) (fun k_ hk_ => hk_.1.2)); have n5_ := Aside0.mk (Kd.R_mono (ok' := fun k_ => some k_ ≠ (v601 : Value).ownBlock ∧ some k_ ≠ (.slice Ao23 t606.length co23 : Value).ownBlock ∧ some k_ ≠ (v611 : Value).ownBlock) (Kd.R_keptB ((Kd.R_apart' HO620.out (Kd.R_typed HO_12.out) (by decide))) hkp (fun k_ hk_ hs_ => (hk_.2) hs_)) (fun k_ hk_ => ⟨hk_.1.1.1.1.2, hk_.1.1.1.2, hk_.1.1.2⟩)); have n6_ := Aside0.mk (hb); clear HO_10; clear HO_12; clear HO_13; clear HO_14; clear HO616; clear HO620; clear HB; have HO_10 := n0_; have HO_12 := n1_; have HO_13 := n2_; have HO_14 := n3_; have HO616 := n4_; have HO620 := n5_; have HB := n6_; clear n0_ n1_ n2_ n3_ n4_ n5_ n6_; (try clear hb); (try clear hkp); (try clear hy0); refine Stop0.out ?_))
                refine Stop0.mk ?_
                have H := H0_.out
                clear H0_
                replace H := Option.bind_eq_some_iff.mp H
                obtain ⟨⟨t624, t625⟩, A490, H⟩ := H
                replace H : (if t624 < 0 then (laws_FnExactTurnLayout.j1 kj24 l0 a1 a2 l3 t599 t600 t609 true) else ((laws_eqSetS.f kj24 t609 t599).bind fun t626 => (if t626 = true then (laws_FnExactTurnLayout.j1 kj24 l0 a1 a2 l3 t599 t600 t609 (t610 != t600)) else (laws_FnExactTurnLayout.j1 kj24 l0 a1 a2 l3 t599 t600 t609 true)))) = some r := H
                have A49 := Aside0.mk A490
                clear A490
                have H0_ := Aside0.mk H
                clear H
                go_wp2_with (first | ((with_reducible refine gate_callee (f := 41) rfl ?_); refine goesL_ (some 77) rfl rfl Try.func41 (by kernel_rfl) rfl #[.slice Ao23 t606.length co23, .int .i64 t622] rfl (by (try simp only [List.map_toArray, List.map_cons, List.map_nil]); first | done | rfl | (simp only [List.length_drop, List.length_take]; rfl)) ?_; (with_reducible refine (laws_markSetS.calls kj24 (fun k_ => some k_ = (.slice Ao23 t606.length co23 : Value).ownBlock) (.slice Ao23 t606.length co23) t606 t622 t624 t625 w _ ?side1 ?side2 A49.out).mono ?_); (case side1 => repeat (first | (with_reducible first | exact HB.out | apply below_alloc | apply pw_below_drewN | apply below_drew1) | exact HB.out)); (case side2 => exact Kd.R_tight rfl HO_13.out); rintro e w50 ⟨rfl, hy0, hb, hkp⟩; refine ⟨_, rfl, ?_⟩; have n0_ := Aside0.mk (Kd.R_mono (ok' := fun k_ => some k_ ≠ (.slice Ao23 t606.length co23 : Value).ownBlock ∧ some k_ ≠ (v611 : Value).ownBlock ∧ some k_ ≠ (.slice Ao44 t618.length co44 : Value).ownBlock) (Kd.R_keptB (HO_10.out) hkp (fun k_ hk_ hs_ => (hk_.1) hs_)) (fun k_ hk_ => ⟨hk_.1.1, hk_.1.2.1, hk_.1.2.2⟩)); have n1_ := Aside0.mk (Kd.R_mono (ok' := fun k_ => some k_ ≠ (.slice Ao38 t614.length co38 : Value).ownBlock) (Kd.R_keptB ((Kd.R_apart' HO_12.out (Kd.R_typed HO_13.out) (by decide))) hkp (fun k_ hk_ hs_ => (hk_.2) hs_)) (fun k_ hk_ => hk_.1.1.2)); have n2_ := Aside0.mk (Kd.R_reok rfl hy0 (fun k_ e_ => HO_13.out.1 k_ e_)); have n3_ := Aside0.mk (Kd.R_mono (ok' := fun k_ => some k_ ≠ (v601 : Value).ownBlock ∧ some k_ ≠ (.slice Ao23 t606.length co23 : Value).ownBlock ∧ some k_ ≠ (.slice Ao44 t618.length co44 : Value).ownBlock) (Kd.R_keptB (HO_14.out) hkp (fun k_ hk_ hs_ => (hk_.2.1) hs_)) (fun k_ hk_ => ⟨hk_.1.1, hk_.1.2.1, hk_.1.2.2⟩)); have n4_ := Aside0.mk (Kd.R_mono (ok' := fun k_ => some k_ ≠ (.slice Ao22 t603.length co22 : Value).ownBlock) (Kd.R_keptB ((Kd.R_apart' HO616.out (Kd.R_typed HO_13.out) (by decide))) hkp (fun k_ hk_ hs_ => (hk_.2) hs_)) (fun k_ hk_ => hk_.1.1)); have n5_ := Aside0.mk (Kd.R_mono (ok' := fun k_ => some k_ ≠ (v601 : Value).ownBlock ∧ some k_ ≠ (.slice Ao23 t606.length co23 : Value).ownBlock ∧ some k_ ≠ (v611 : Value).ownBlock) (Kd.R_keptB (HO620.out) hkp (fun k_ hk_ hs_ => (hk_.2.1) hs_)) (fun k_ hk_ => ⟨hk_.1.1, hk_.1.2.1, hk_.1.2.2⟩)); have n6_ := Aside0.mk (hb); clear HO_10; clear HO_12; clear HO_13; clear HO_14; clear HO616; clear HO620; clear HB; have HO_10 := n0_; have HO_12 := n1_; have HO_13 := n2_; have HO_14 := n3_; have HO616 := n4_; have HO620 := n5_; have HB := n6_; clear n0_ n1_ n2_ n3_ n4_ n5_ n6_; (try clear hb); (try clear hkp); (try clear hy0); refine Stop0.out ?_))
                refine Stop0.mk ?_
                have H := H0_.out
                clear H0_
                have HC51 := Aside0.mk H
                clear H
                go_upto_region 21 with (fail)
                go_cut [90] (fun v90 wc => ∃ (kq : Nat) (x90_50 : Bool), v90 = .bool x90_50 ∧ Aside0 (laws_FnExactTurnLayout.j1 kq l0 a1 a2 l3 t599 t600 t609 x90_50 = some r) ∧ Aside0 (kq ≤ kj24) ∧ Aside0 (Kd.R k74 74 wc w.heap.size (fun k_ => some k_ ≠ (v611 : Value).ownBlock) v601 t599) ∧ Aside0 (Kd.R k74 74 wc w.heap.size (fun k_ => some k_ ≠ (v601 : Value).ownBlock) v611 t609) ∧ Aside0 (Below w.heap.size w wc))
                case first =>
                  have H := HC51.out
                  clear HC51
                  by_cases c52 : t624 < 0
                  · rw [if_pos c52] at H
                    have c52b0 : decide (t624 < 0) = true := decide_eq_true c52
                    clear c52
                    (first | rw [c52b0] | (simp only [i64_w, i32_w]; rw [c52b0]) | skip)
                    have H' := Aside0.mk H
                    clear H
                    go_wp2
                    go_meet
                    case rel => exact ⟨_, (true), (by first | rfl | (simp; done) | (simp [*]; done)), H', ⟨by have := HJ24.out; first | omega | exact Nat.le_refl _⟩, ⟨by (with_reducible repeat (first | apply Kd.R_alloc | apply Kd.R_drewN | apply Kd.R_drew)); exact Kd.R_mono HO_10.out (fun _ hk => hk.2.1)⟩, ⟨by (with_reducible repeat (first | apply Kd.R_alloc | apply Kd.R_drewN | apply Kd.R_drew)); exact Kd.R_mono HO_14.out (fun _ hk => hk.1)⟩, ⟨by repeat (first | (with_reducible first | exact HB.out | apply below_alloc | apply pw_below_drewN | apply below_drew1) | exact HB.out)⟩⟩
                  · rw [if_neg c52] at H
                    have c52b0 : decide (t624 < 0) = false := decide_eq_false c52
                    clear c52
                    (first | rw [c52b0] | (simp only [i64_w, i32_w]; rw [c52b0]) | skip)
                    replace H := Option.bind_eq_some_iff.mp H
                    obtain ⟨t626, A530, H⟩ := H
                    replace H : (if t626 = true then (laws_FnExactTurnLayout.j1 kj24 l0 a1 a2 l3 t599 t600 t609 (t610 != t600)) else (laws_FnExactTurnLayout.j1 kj24 l0 a1 a2 l3 t599 t600 t609 true)) = some r := H
                    have A53 := Aside0.mk A530
                    clear A530
                    have H0_ := Aside0.mk H
                    clear H
                    obtain ⟨Ao54, co54, eo54⟩ := Kd.R_slice HO_14.out
                    subst eo54
                    obtain ⟨Ao55, co55, eo55⟩ := Kd.R_slice HO_10.out
                    subst eo55
                    go_wp2_with (first | (go_at_call 36; (with_reducible refine (laws_eqSetS.calls kj24 _ _ t609 _ _ t599 t626 _ ?side1 ?side2 ?side3 ?side4 A53.out).mono ?_); (case side1 => repeat (first | exact (Kd.R_reads' HO_14.out).2.2 | (with_reducible refine Kd.C_alloc ?_ _) | (with_reducible refine Kd.C_drewN ?_ _) | (with_reducible refine Kd.C_drew ?_))); (case side2 => exact (Kd.R_reads' HO_14.out).2.1); (case side3 => repeat (first | exact (Kd.R_reads' HO_10.out).2.2 | (with_reducible refine Kd.C_alloc ?_ _) | (with_reducible refine Kd.C_drewN ?_ _) | (with_reducible refine Kd.C_drew ?_))); (case side4 => exact (Kd.R_reads' HO_10.out).2.1); rintro e w56 ⟨rfl, hb⟩; have n0_ := Aside0.mk (Kd.R_below (by (with_reducible repeat (first | apply Kd.R_alloc | apply Kd.R_drewN | apply Kd.R_drew)); exact HO_10.out) hb); have n1_ := Aside0.mk (Kd.R_below (by (with_reducible repeat (first | apply Kd.R_alloc | apply Kd.R_drewN | apply Kd.R_drew)); exact HO_12.out) hb); have n2_ := Aside0.mk (Kd.R_below (by (with_reducible repeat (first | apply Kd.R_alloc | apply Kd.R_drewN | apply Kd.R_drew)); exact HO_13.out) hb); have n3_ := Aside0.mk (Kd.R_below (by (with_reducible repeat (first | apply Kd.R_alloc | apply Kd.R_drewN | apply Kd.R_drew)); exact HO_14.out) hb); have n4_ := Aside0.mk (Kd.R_below (by (with_reducible repeat (first | apply Kd.R_alloc | apply Kd.R_drewN | apply Kd.R_drew)); exact HO616.out) hb); have n5_ := Aside0.mk (Kd.R_below (by (with_reducible repeat (first | apply Kd.R_alloc | apply Kd.R_drewN | apply Kd.R_drew)); exact HO620.out) hb); have n6_ := Aside0.mk (below_step (by repeat (first | (with_reducible first | exact HB.out | apply below_alloc | apply pw_below_drewN | apply below_drew1) | exact HB.out)) hb); clear HO_10; clear HO_12; clear HO_13; clear HO_14; clear HO616; clear HO620; clear HB; have HO_10 := n0_; have HO_12 := n1_; have HO_13 := n2_; have HO_14 := n3_; have HO616 := n4_; have HO620 := n5_; have HB := n6_; clear n0_ n1_ n2_ n3_ n4_ n5_ n6_; (try clear hb); (try clear hb2); (try clear hk); (try clear hi); refine Stop0.out ?_))
                    refine Stop0.mk ?_
                    have H := H0_.out
                    clear H0_
                    by_cases c57 : t626 = true
                    · subst c57
                      have H1 : (laws_FnExactTurnLayout.j1 kj24 l0 a1 a2 l3 t599 t600 t609 (t610 != t600)) = some r := by rw [if_pos rfl] at H; exact H
                      clear H
                      have H := H1
                      clear H1
                      have H' := Aside0.mk H
                      clear H
                      go_wp2
                      go_meet
                      case rel => exact ⟨_, ((t610 != t600)), (by first | rfl | (simp; done) | (simp [*]; done)), H', ⟨by have := HJ24.out; first | omega | exact Nat.le_refl _⟩, ⟨by (with_reducible repeat (first | apply Kd.R_alloc | apply Kd.R_drewN | apply Kd.R_drew)); exact Kd.R_mono HO_10.out (fun _ hk => hk.2.1)⟩, ⟨by (with_reducible repeat (first | apply Kd.R_alloc | apply Kd.R_drewN | apply Kd.R_drew)); exact Kd.R_mono HO_14.out (fun _ hk => hk.1)⟩, ⟨by repeat (first | (with_reducible first | exact HB.out | apply below_alloc | apply pw_below_drewN | apply below_drew1) | exact HB.out)⟩⟩
                    · replace c57 := Bool.eq_false_iff.mpr c57
                      subst c57
                      have H1 : (laws_FnExactTurnLayout.j1 kj24 l0 a1 a2 l3 t599 t600 t609 true) = some r := by rw [if_neg (show ¬ (false = true) by decide)] at H; exact H
                      clear H
                      have H := H1
                      clear H1
                      have H' := Aside0.mk H
                      clear H
                      go_wp2
                      go_meet
                      case rel => exact ⟨_, (true), (by first | rfl | (simp; done) | (simp [*]; done)), H', ⟨by have := HJ24.out; first | omega | exact Nat.le_refl _⟩, ⟨by (with_reducible repeat (first | apply Kd.R_alloc | apply Kd.R_drewN | apply Kd.R_drew)); exact Kd.R_mono HO_10.out (fun _ hk => hk.2.1)⟩, ⟨by (with_reducible repeat (first | apply Kd.R_alloc | apply Kd.R_drewN | apply Kd.R_drew)); exact Kd.R_mono HO_14.out (fun _ hk => hk.1)⟩, ⟨by repeat (first | (with_reducible first | exact HB.out | apply below_alloc | apply pw_below_drewN | apply below_drew1) | exact HB.out)⟩⟩
                case rest =>
                  clear HC51
                  try clear c1
                  try clear c2
                  try clear p2
                  try clear c3
                  try clear c4
                  try clear c5
                  try clear c6
                  try clear c6b0
                  try clear c8
                  try clear c8b0
                  try clear c9
                  try clear c17
                  try clear c19
                  try clear c21
                  try clear c25
                  try clear c27
                  try clear c32
                  try clear c34
                  try clear c36
                  try clear c39
                  try clear c40
                  try clear c41
                  try clear c46
                  try clear c52
                  try clear c52b0
                  try clear c57
                  try clear p2
                  obtain ⟨kq, x90_50, rfl, HA, HJ50, HO_10, HO_14, HB⟩ := hcut
                  cases kq with
                  | zero => exact absurd HA.out (by simp [laws_FnExactTurnLayout.j1])
                  | succ kj50 =>
                    have H := HA.out
                    clear HA
                    simp only [laws_FnExactTurnLayout.j1] at H
                    by_cases c58 : x90_50 = true
                    · subst c58
                      have H1 : (some false) = some r := by rw [if_pos rfl] at H; exact H
                      clear H
                      have H := H1
                      clear H1
                      obtain rfl := Option.some.inj H
                      go_wp2
                      go_ret
                      exact ⟨by first | rfl | (simp [errW_none, errW_some] <;> rfl) | (simp [*, errW_none, errW_some] <;> rfl), by repeat (first | (with_reducible first | exact HB.out | apply below_alloc | apply pw_below_drewN | apply below_drew1) | exact HB.out)⟩
                    · replace c58 := Bool.eq_false_iff.mpr c58
                      subst c58
                      have H1 : ((laws_markSetS.f kj50 t609 1).bind fun bt627 => ((laws_heldSetS.f kj50 bt627.2 1).bind fun t629 => (if t629 < 0 then (some false) else (if t629 = bt627.1 then ((laws_toTileS.f kj50 l0).bind fun t630 => ((laws_toSetS.f kj50 l3).bind fun t633 => ((impl_TurnLayout.f kj50 t630 a1 a2 t633).bind fun bt636 => ((laws_eqSetS.f kj50 bt636.1 t599).bind fun t640 => (if t640 = true then (laws_FnExactTurnLayout.j2 kj50 bt627.2 bt627.1 (bt636.2 != t600)) else (laws_FnExactTurnLayout.j2 kj50 bt627.2 bt627.1 true)))))) else (some false))))) = some r := by rw [if_neg (show ¬ (false = true) by decide)] at H; exact H
                      clear H
                      have H := H1
                      clear H1
                      replace H := Option.bind_eq_some_iff.mp H
                      obtain ⟨⟨t627, t628⟩, A590, H⟩ := H
                      replace H : ((laws_heldSetS.f kj50 t628 1).bind fun t629 => (if t629 < 0 then (some false) else (if t629 = t627 then ((laws_toTileS.f kj50 l0).bind fun t630 => ((laws_toSetS.f kj50 l3).bind fun t633 => ((impl_TurnLayout.f kj50 t630 a1 a2 t633).bind fun bt636 => ((laws_eqSetS.f kj50 bt636.1 t599).bind fun t640 => (if t640 = true then (laws_FnExactTurnLayout.j2 kj50 t628 t627 (bt636.2 != t600)) else (laws_FnExactTurnLayout.j2 kj50 t628 t627 true)))))) else (some false)))) = some r := H
                      have A59 := Aside0.mk A590
                      clear A590
                      have H0_ := Aside0.mk H
                      clear H
                      obtain ⟨Ao60, co60, eo60⟩ := Kd.R_slice HO_14.out
                      subst eo60
                      go_wp2_with (first | ((with_reducible refine gate_callee (f := 41) rfl ?_); refine goesL_ (some 93) rfl rfl Try.func41 (by kernel_rfl) rfl #[.slice Ao60 t609.length co60, .int .i64 1] rfl (by (try simp only [List.map_toArray, List.map_cons, List.map_nil]); first | done | rfl | (simp only [List.length_drop, List.length_take]; rfl)) ?_; (with_reducible refine (laws_markSetS.calls kj50 (fun k_ => some k_ = (.slice Ao60 t609.length co60 : Value).ownBlock) (.slice Ao60 t609.length co60) t609 1 t627 t628 w _ ?side1 ?side2 A59.out).mono ?_); (case side1 => repeat (first | (with_reducible first | exact HB.out | apply below_alloc | apply pw_below_drewN | apply below_drew1) | exact HB.out)); (case side2 => exact Kd.R_tight rfl HO_14.out); rintro e w61 ⟨rfl, hy0, hb, hkp⟩; refine ⟨_, rfl, ?_⟩; have n0_ := Aside0.mk (Kd.R_mono (ok' := fun k_ => some k_ ≠ (.slice Ao60 t609.length co60 : Value).ownBlock) (Kd.R_keptB (HO_10.out) hkp (fun k_ hk_ hs_ => (hk_) hs_)) (fun k_ hk_ => hk_.1)); have n1_ := Aside0.mk (Kd.R_reok rfl hy0 (fun k_ e_ => HO_14.out.1 k_ e_)); have n2_ := Aside0.mk (hb); clear HO_10; clear HO_14; clear HB; have HO_10 := n0_; have HO_14 := n1_; have HB := n2_; clear n0_ n1_ n2_; (try clear hb); (try clear hkp); (try clear hy0); refine Stop0.out ?_))
                      refine Stop0.mk ?_
                      have H := H0_.out
                      clear H0_
                      replace H := Option.bind_eq_some_iff.mp H
                      obtain ⟨t629, A620, H⟩ := H
                      replace H : (if t629 < 0 then (some false) else (if t629 = t627 then ((laws_toTileS.f kj50 l0).bind fun t630 => ((laws_toSetS.f kj50 l3).bind fun t633 => ((impl_TurnLayout.f kj50 t630 a1 a2 t633).bind fun bt636 => ((laws_eqSetS.f kj50 bt636.1 t599).bind fun t640 => (if t640 = true then (laws_FnExactTurnLayout.j2 kj50 t628 t627 (bt636.2 != t600)) else (laws_FnExactTurnLayout.j2 kj50 t628 t627 true)))))) else (some false))) = some r := H
                      have A62 := Aside0.mk A620
                      clear A620
                      have H0_ := Aside0.mk H
                      clear H
                      go_wp2_with (first | ((with_reducible refine gate_callee (f := 42) rfl ?_); refine goesL_ (some 96) rfl rfl Try.func42 (by kernel_rfl) rfl #[.slice Ao60 t628.length co60, .int .i64 1] rfl (by (try simp only [List.map_toArray, List.map_cons, List.map_nil]); first | done | (rw [show t628.length = t609.length from (Kd.R_reads' HO_14.out).1.symm] <;> rfl) | rfl | (simp only [List.length_drop, List.length_take]; rfl)) ?_; (with_reducible refine (laws_heldSetS.calls kj50 _ _ t628 1 t629 _ ?side1 ?side2 A62.out).mono ?_); (case side1 => repeat (first | exact (Kd.R_reads' HO_14.out).2.2 | (with_reducible refine Kd.C_alloc ?_ _) | (with_reducible refine Kd.C_drewN ?_ _) | (with_reducible refine Kd.C_drew ?_))); (case side2 => rw [show t628.length = t609.length from (Kd.R_reads' HO_14.out).1.symm]; exact (Kd.R_reads' HO_14.out).2.1); rintro e w' ⟨rfl, ⟨nd, rfl⟩⟩; refine ⟨_, rfl, ?_⟩; refine Stop0.out ?_))
                      refine Stop0.mk ?_
                      have H := H0_.out
                      clear H0_
                      by_cases c63 : t629 < 0
                      · rw [if_pos c63] at H
                        have c63b0 : decide (t629 < 0) = true := decide_eq_true c63
                        clear c63
                        obtain rfl := Option.some.inj H
                        go_wp2
                        go_ret
                        exact ⟨by first | rfl | (simp [errW_none, errW_some] <;> rfl) | (simp [*, errW_none, errW_some] <;> rfl), by repeat (first | (with_reducible first | exact HB.out | apply below_alloc | apply pw_below_drewN | apply below_drew1) | exact HB.out)⟩
                      · rw [if_neg c63] at H
                        have c63b0 : decide (t629 < 0) = false := decide_eq_false c63
                        clear c63
                        by_cases c64 : t629 = t627
                        · rw [if_pos c64] at H
                          have c64b0 : (t629 == t627) = true := beq_iff_eq.mpr c64
                          have c64b1 : (t629 != t627) = false := bne_eq_false_iff_eq.mpr c64
                          clear c64
                          replace H := Option.bind_eq_some_iff.mp H
                          obtain ⟨t630, A650, H⟩ := H
                          replace H : ((laws_toSetS.f kj50 l3).bind fun t633 => ((impl_TurnLayout.f kj50 t630 a1 a2 t633).bind fun bt636 => ((laws_eqSetS.f kj50 bt636.1 t599).bind fun t640 => (if t640 = true then (laws_FnExactTurnLayout.j2 kj50 t628 t627 (bt636.2 != t600)) else (laws_FnExactTurnLayout.j2 kj50 t628 t627 true))))) = some r := H
                          have A65 := Aside0.mk A650
                          clear A650
                          have H0_ := Aside0.mk H
                          clear H
                          go_wp2_with (first | ((with_reducible refine gate_callee (f := 19) rfl ?_); refine goesL_ (some 104) rfl rfl Try.func19 (by kernel_rfl) rfl #[.slice A0 l0.length c0] rfl (by (try simp only [List.map_toArray, List.map_cons, List.map_nil]); first | done | rfl | (simp only [List.length_drop, List.length_take]; rfl)) ?_; (with_reducible refine (laws_toTileS.calls kj50 _ _ l0 t630 _ ?side1 ?side2 A65.out).mono ?_); (case side1 => repeat (first | exact (Kd.C_below HR0.out HB.out) | (with_reducible refine Kd.C_alloc ?_ _) | (with_reducible refine Kd.C_drewN ?_ _) | (with_reducible refine Kd.C_drew ?_))); (case side2 => exact HC0.out); rintro e w66 ⟨v631, rfl, ho0, hb⟩; refine ⟨_, rfl, ?_⟩; have n0_ := Aside0.mk (Kd.R_below (by (with_reducible repeat (first | apply Kd.R_alloc | apply Kd.R_drewN | apply Kd.R_drew)); exact HO_10.out) hb); have n1_ := Aside0.mk (Kd.R_below (by (with_reducible repeat (first | apply Kd.R_alloc | apply Kd.R_drewN | apply Kd.R_drew)); exact HO_14.out) hb); have n2_ := Aside0.mk (Kd.R_lower ho0 (below_size (by repeat (first | (with_reducible first | exact HB.out | apply below_alloc | apply pw_below_drewN | apply below_drew1) | exact HB.out)))); have n3_ := Aside0.mk (below_step (by repeat (first | (with_reducible first | exact HB.out | apply below_alloc | apply pw_below_drewN | apply below_drew1) | exact HB.out)) hb); clear HO_10; clear HO_14; clear HB; have HO_10 := n0_; have HO_14 := n1_; have HO632 := n2_; have HB := n3_; clear n0_ n1_ n2_ n3_; (try clear hb); (try clear hb2); (try clear hk); (try clear hi); (try clear ho0); refine Stop0.out ?_))
                          refine Stop0.mk ?_
                          have H := H0_.out
                          clear H0_
                          replace H := Option.bind_eq_some_iff.mp H
                          obtain ⟨t633, A670, H⟩ := H
                          replace H : ((impl_TurnLayout.f kj50 t630 a1 a2 t633).bind fun bt636 => ((laws_eqSetS.f kj50 bt636.1 t599).bind fun t640 => (if t640 = true then (laws_FnExactTurnLayout.j2 kj50 t628 t627 (bt636.2 != t600)) else (laws_FnExactTurnLayout.j2 kj50 t628 t627 true)))) = some r := H
                          have A67 := Aside0.mk A670
                          clear A670
                          have H0_ := Aside0.mk H
                          clear H
                          go_wp2_with (first | ((with_reducible refine gate_callee (f := 34) rfl ?_); refine goesL_ (some 108) rfl rfl Try.func34 (by kernel_rfl) rfl #[.slice A3 l3.length c3] rfl (by (try simp only [List.map_toArray, List.map_cons, List.map_nil]); first | done | rfl | (simp only [List.length_drop, List.length_take]; rfl)) ?_; (with_reducible refine (laws_toSetS.calls kj50 _ _ l3 t633 _ ?side1 ?side2 A67.out).mono ?_); (case side1 => repeat (first | exact (Kd.C_below HR3.out HB.out) | (with_reducible refine Kd.C_alloc ?_ _) | (with_reducible refine Kd.C_drewN ?_ _) | (with_reducible refine Kd.C_drew ?_))); (case side2 => exact HC3.out); rintro e w68 ⟨v634, rfl, ho0, hb⟩; refine ⟨_, rfl, ?_⟩; have n0_ := Aside0.mk (Kd.R_elder' (by (with_reducible repeat (first | apply Kd.R_alloc | apply Kd.R_drewN | apply Kd.R_drew)); exact HO_10.out) (Kd.R_base ho0) hb); have n1_ := Aside0.mk (Kd.R_elder' (by (with_reducible repeat (first | apply Kd.R_alloc | apply Kd.R_drewN | apply Kd.R_drew)); exact HO_14.out) (Kd.R_base ho0) hb); have n2_ := Aside0.mk (Kd.R_below (by (with_reducible repeat (first | apply Kd.R_alloc | apply Kd.R_drewN | apply Kd.R_drew)); exact HO632.out) hb); have n3_ := Aside0.mk (Kd.R_lower (Kd.R_new' (Kd.R_new' ho0 (Kd.R_lt (by (with_reducible repeat (first | apply Kd.R_alloc | apply Kd.R_drewN | apply Kd.R_drew)); exact HO_10.out))) (Kd.R_lt (by (with_reducible repeat (first | apply Kd.R_alloc | apply Kd.R_drewN | apply Kd.R_drew)); exact HO_14.out))) (below_size (by repeat (first | (with_reducible first | exact HB.out | apply below_alloc | apply pw_below_drewN | apply below_drew1) | exact HB.out)))); have n4_ := Aside0.mk (below_step (by repeat (first | (with_reducible first | exact HB.out | apply below_alloc | apply pw_below_drewN | apply below_drew1) | exact HB.out)) hb); clear HO_10; clear HO_14; clear HO632; clear HB; have HO_10 := n0_; have HO_14 := n1_; have HO632 := n2_; have HO635 := n3_; have HB := n4_; clear n0_ n1_ n2_ n3_ n4_; (try clear hb); (try clear hb2); (try clear hk); (try clear hi); (try clear ho0); refine Stop0.out ?_))
                          refine Stop0.mk ?_
                          have H := H0_.out
                          clear H0_
                          replace H := Option.bind_eq_some_iff.mp H
                          obtain ⟨⟨t636, t637⟩, A690, H⟩ := H
                          replace H : ((laws_eqSetS.f kj50 t636 t599).bind fun t640 => (if t640 = true then (laws_FnExactTurnLayout.j2 kj50 t628 t627 (t637 != t600)) else (laws_FnExactTurnLayout.j2 kj50 t628 t627 true))) = some r := H
                          have A69 := Aside0.mk A690
                          clear A690
                          have H0_ := Aside0.mk H
                          clear H
                          obtain ⟨Ao70, co70, eo70⟩ := Kd.R_slice HO632.out
                          subst eo70
                          obtain ⟨Ao71, co71, eo71⟩ := Kd.R_slice HO635.out
                          subst eo71
                          go_wp2_with (first | ((with_reducible refine gate_callee (f := 40) rfl ?_); refine goesL_ (some 109) rfl rfl Try.func40 (by kernel_rfl) rfl #[.slice Ao70 t630.length co70, .int .i64 a1, .int .i64 a2, .slice Ao71 t633.length co71] rfl (by (try simp only [List.map_toArray, List.map_cons, List.map_nil]); first | done | rfl | (simp only [List.length_drop, List.length_take]; rfl)) ?_; (with_reducible refine (impl_TurnLayout.calls kj50 _ _ t630 a1 a2 _ _ t633 t636 t637 _ ?side1 ?side2 ?side3 ?side4 A69.out).mono ?_); (case side1 => repeat (first | exact (Kd.R_reads' HO632.out).2.2 | (with_reducible refine Kd.C_alloc ?_ _) | (with_reducible refine Kd.C_drewN ?_ _) | (with_reducible refine Kd.C_drew ?_))); (case side2 => exact (Kd.R_reads' HO632.out).2.1); (case side3 => repeat (first | exact (Kd.R_reads' HO635.out).2.2 | (with_reducible refine Kd.C_alloc ?_ _) | (with_reducible refine Kd.C_drewN ?_ _) | (with_reducible refine Kd.C_drew ?_))); (case side4 => exact (Kd.R_reads' HO635.out).2.1); rintro e w72 ⟨v638, rfl, ho0, hb⟩; refine ⟨_, rfl, ?_⟩; have n0_ := Aside0.mk (Kd.R_elder' (by (with_reducible repeat (first | apply Kd.R_alloc | apply Kd.R_drewN | apply Kd.R_drew)); exact HO_10.out) (Kd.R_base ho0) hb); have n1_ := Aside0.mk (Kd.R_elder' (by (with_reducible repeat (first | apply Kd.R_alloc | apply Kd.R_drewN | apply Kd.R_drew)); exact HO_14.out) (Kd.R_base ho0) hb); have n2_ := Aside0.mk (Kd.R_below (by (with_reducible repeat (first | apply Kd.R_alloc | apply Kd.R_drewN | apply Kd.R_drew)); exact HO632.out) hb); have n3_ := Aside0.mk (Kd.R_elder' (by (with_reducible repeat (first | apply Kd.R_alloc | apply Kd.R_drewN | apply Kd.R_drew)); exact HO635.out) (Kd.R_base ho0) hb); have n4_ := Aside0.mk (Kd.R_lower (Kd.R_new' (Kd.R_new' (Kd.R_new' ho0 (Kd.R_lt (by (with_reducible repeat (first | apply Kd.R_alloc | apply Kd.R_drewN | apply Kd.R_drew)); exact HO_10.out))) (Kd.R_lt (by (with_reducible repeat (first | apply Kd.R_alloc | apply Kd.R_drewN | apply Kd.R_drew)); exact HO_14.out))) (Kd.R_lt (by (with_reducible repeat (first | apply Kd.R_alloc | apply Kd.R_drewN | apply Kd.R_drew)); exact HO635.out))) (below_size (by repeat (first | (with_reducible first | exact HB.out | apply below_alloc | apply pw_below_drewN | apply below_drew1) | exact HB.out)))); have n5_ := Aside0.mk (below_step (by repeat (first | (with_reducible first | exact HB.out | apply below_alloc | apply pw_below_drewN | apply below_drew1) | exact HB.out)) hb); clear HO_10; clear HO_14; clear HO632; clear HO635; clear HB; have HO_10 := n0_; have HO_14 := n1_; have HO632 := n2_; have HO635 := n3_; have HO639 := n4_; have HB := n5_; clear n0_ n1_ n2_ n3_ n4_ n5_; (try clear hb); (try clear hb2); (try clear hk); (try clear hi); (try clear ho0); refine Stop0.out ?_))
                          refine Stop0.mk ?_
                          have H := H0_.out
                          clear H0_
                          have HC73 := Aside0.mk H
                          clear H
                          go_upto_region 32 with (fail)
                          go_cut [120] (fun v120 wc => ∃ (kq : Nat) (x120_72 : Bool), v120 = .bool x120_72 ∧ Aside0 (laws_FnExactTurnLayout.j2 kq t628 t627 x120_72 = some r) ∧ Aside0 (kq ≤ kj50) ∧ Aside0 (Kd.R k74 74 wc w.heap.size (fun _ => True) (.slice Ao60 t609.length co60) t628) ∧ Aside0 (Below w.heap.size w wc))
                          case first =>
                            have H := HC73.out
                            clear HC73
                            replace H := Option.bind_eq_some_iff.mp H
                            obtain ⟨t640, A740, H⟩ := H
                            replace H : (if t640 = true then (laws_FnExactTurnLayout.j2 kj50 t628 t627 (t637 != t600)) else (laws_FnExactTurnLayout.j2 kj50 t628 t627 true)) = some r := H
                            have A74 := Aside0.mk A740
                            clear A740
                            by_cases c75 : t640 = true
                            · subst c75
                              have H1 : (laws_FnExactTurnLayout.j2 kj50 t628 t627 (t637 != t600)) = some r := by rw [if_pos rfl] at H; exact H
                              clear H
                              have H := H1
                              clear H1
                              have H' := Aside0.mk H
                              clear H
                              obtain ⟨Ao76, co76, eo76⟩ := Kd.R_slice HO639.out
                              subst eo76
                              obtain ⟨Ao77, co77, eo77⟩ := Kd.R_slice HO_10.out
                              subst eo77
                              go_wp2_with (first | ((with_reducible refine gate_callee (f := 36) rfl ?_); refine goesL_ (some 114) rfl rfl Try.func36 (by kernel_rfl) rfl #[.slice Ao76 t636.length co76, .slice Ao77 t599.length co77] rfl (by (try simp only [List.map_toArray, List.map_cons, List.map_nil]); first | done | rfl | (simp only [List.length_drop, List.length_take]; rfl)) ?_; (with_reducible refine (laws_eqSetS.calls kj50 _ _ t636 _ _ t599 true _ ?side1 ?side2 ?side3 ?side4 A74.out).mono ?_); (case side1 => repeat (first | exact (Kd.R_reads' HO639.out).2.2 | (with_reducible refine Kd.C_alloc ?_ _) | (with_reducible refine Kd.C_drewN ?_ _) | (with_reducible refine Kd.C_drew ?_))); (case side2 => exact (Kd.R_reads' HO639.out).2.1); (case side3 => repeat (first | exact (Kd.R_reads' HO_10.out).2.2 | (with_reducible refine Kd.C_alloc ?_ _) | (with_reducible refine Kd.C_drewN ?_ _) | (with_reducible refine Kd.C_drew ?_))); (case side4 => exact (Kd.R_reads' HO_10.out).2.1); rintro e w78 ⟨rfl, hb⟩; refine ⟨_, rfl, ?_⟩; have n0_ := Aside0.mk (Kd.R_below (by (with_reducible repeat (first | apply Kd.R_alloc | apply Kd.R_drewN | apply Kd.R_drew)); exact HO_10.out) hb); have n1_ := Aside0.mk (Kd.R_below (by (with_reducible repeat (first | apply Kd.R_alloc | apply Kd.R_drewN | apply Kd.R_drew)); exact HO_14.out) hb); have n2_ := Aside0.mk (Kd.R_below (by (with_reducible repeat (first | apply Kd.R_alloc | apply Kd.R_drewN | apply Kd.R_drew)); exact HO632.out) hb); have n3_ := Aside0.mk (Kd.R_below (by (with_reducible repeat (first | apply Kd.R_alloc | apply Kd.R_drewN | apply Kd.R_drew)); exact HO635.out) hb); have n4_ := Aside0.mk (Kd.R_below (by (with_reducible repeat (first | apply Kd.R_alloc | apply Kd.R_drewN | apply Kd.R_drew)); exact HO639.out) hb); have n5_ := Aside0.mk (below_step (by repeat (first | (with_reducible first | exact HB.out | apply below_alloc | apply pw_below_drewN | apply below_drew1) | exact HB.out)) hb); clear HO_10; clear HO_14; clear HO632; clear HO635; clear HO639; clear HB; have HO_10 := n0_; have HO_14 := n1_; have HO632 := n2_; have HO635 := n3_; have HO639 := n4_; have HB := n5_; clear n0_ n1_ n2_ n3_ n4_ n5_; (try clear hb); (try clear hb2); (try clear hk); (try clear hi)))
                              go_meet
                              case rel => exact ⟨_, ((t637 != t600)), (by first | rfl | (simp; done) | (simp [*]; done)), H', ⟨by have := HJ24.out; have := HJ50.out; first | omega | exact Nat.le_refl _⟩, ⟨by (with_reducible repeat (first | apply Kd.R_alloc | apply Kd.R_drewN | apply Kd.R_drew)); exact Kd.R_mono HO_14.out (fun _ hk => trivial)⟩, ⟨by repeat (first | (with_reducible first | exact HB.out | apply below_alloc | apply pw_below_drewN | apply below_drew1) | exact HB.out)⟩⟩
                            · replace c75 := Bool.eq_false_iff.mpr c75
                              subst c75
                              have H1 : (laws_FnExactTurnLayout.j2 kj50 t628 t627 true) = some r := by rw [if_neg (show ¬ (false = true) by decide)] at H; exact H
                              clear H
                              have H := H1
                              clear H1
                              have H' := Aside0.mk H
                              clear H
                              obtain ⟨Ao79, co79, eo79⟩ := Kd.R_slice HO639.out
                              subst eo79
                              obtain ⟨Ao80, co80, eo80⟩ := Kd.R_slice HO_10.out
                              subst eo80
                              go_wp2_with (first | ((with_reducible refine gate_callee (f := 36) rfl ?_); refine goesL_ (some 114) rfl rfl Try.func36 (by kernel_rfl) rfl #[.slice Ao79 t636.length co79, .slice Ao80 t599.length co80] rfl (by (try simp only [List.map_toArray, List.map_cons, List.map_nil]); first | done | rfl | (simp only [List.length_drop, List.length_take]; rfl)) ?_; (with_reducible refine (laws_eqSetS.calls kj50 _ _ t636 _ _ t599 false _ ?side1 ?side2 ?side3 ?side4 A74.out).mono ?_); (case side1 => repeat (first | exact (Kd.R_reads' HO639.out).2.2 | (with_reducible refine Kd.C_alloc ?_ _) | (with_reducible refine Kd.C_drewN ?_ _) | (with_reducible refine Kd.C_drew ?_))); (case side2 => exact (Kd.R_reads' HO639.out).2.1); (case side3 => repeat (first | exact (Kd.R_reads' HO_10.out).2.2 | (with_reducible refine Kd.C_alloc ?_ _) | (with_reducible refine Kd.C_drewN ?_ _) | (with_reducible refine Kd.C_drew ?_))); (case side4 => exact (Kd.R_reads' HO_10.out).2.1); rintro e w81 ⟨rfl, hb⟩; refine ⟨_, rfl, ?_⟩; have n0_ := Aside0.mk (Kd.R_below (by (with_reducible repeat (first | apply Kd.R_alloc | apply Kd.R_drewN | apply Kd.R_drew)); exact HO_10.out) hb); have n1_ := Aside0.mk (Kd.R_below (by (with_reducible repeat (first | apply Kd.R_alloc | apply Kd.R_drewN | apply Kd.R_drew)); exact HO_14.out) hb); have n2_ := Aside0.mk (Kd.R_below (by (with_reducible repeat (first | apply Kd.R_alloc | apply Kd.R_drewN | apply Kd.R_drew)); exact HO632.out) hb); have n3_ := Aside0.mk (Kd.R_below (by (with_reducible repeat (first | apply Kd.R_alloc | apply Kd.R_drewN | apply Kd.R_drew)); exact HO635.out) hb); have n4_ := Aside0.mk (Kd.R_below (by (with_reducible repeat (first | apply Kd.R_alloc | apply Kd.R_drewN | apply Kd.R_drew)); exact HO639.out) hb); have n5_ := Aside0.mk (below_step (by repeat (first | (with_reducible first | exact HB.out | apply below_alloc | apply pw_below_drewN | apply below_drew1) | exact HB.out)) hb); clear HO_10; clear HO_14; clear HO632; clear HO635; clear HO639; clear HB; have HO_10 := n0_; have HO_14 := n1_; have HO632 := n2_; have HO635 := n3_; have HO639 := n4_; have HB := n5_; clear n0_ n1_ n2_ n3_ n4_ n5_; (try clear hb); (try clear hb2); (try clear hk); (try clear hi)))
                              go_meet
                              case rel => exact ⟨_, (true), (by first | rfl | (simp; done) | (simp [*]; done)), H', ⟨by have := HJ24.out; have := HJ50.out; first | omega | exact Nat.le_refl _⟩, ⟨by (with_reducible repeat (first | apply Kd.R_alloc | apply Kd.R_drewN | apply Kd.R_drew)); exact Kd.R_mono HO_14.out (fun _ hk => trivial)⟩, ⟨by repeat (first | (with_reducible first | exact HB.out | apply below_alloc | apply pw_below_drewN | apply below_drew1) | exact HB.out)⟩⟩
                          case rest =>
                            clear HC73
                            try clear c1
                            try clear c2
                            try clear p2
                            try clear c3
                            try clear c4
                            try clear c5
                            try clear c6
                            try clear c6b0
                            try clear c7
                            try clear c8
                            try clear c8b0
                            try clear c9
                            try clear c17
                            try clear c19
                            try clear c21
                            try clear c25
                            try clear c27
                            try clear c32
                            try clear c34
                            try clear c36
                            try clear c39
                            try clear c40
                            try clear c41
                            try clear c42
                            try clear c46
                            try clear c52
                            try clear c52b0
                            try clear c57
                            try clear c58
                            try clear c63
                            try clear c63b0
                            try clear c64
                            try clear c64b0
                            try clear c64b1
                            try clear c75
                            try clear p2
                            obtain ⟨kq, x120_72, rfl, HA, HJ72, HO_14, HB⟩ := hcut
                            have hl14_72 := (Kd.R_reads' HO_14.out).1
                            rw [hl14_72] at HO_14
                            (try simp only [hl14_72])
                            cases kq with
                            | zero => exact absurd HA.out (by simp [laws_FnExactTurnLayout.j2])
                            | succ kj72 =>
                              have H := HA.out
                              clear HA
                              simp only [laws_FnExactTurnLayout.j2] at H
                              by_cases c82 : x120_72 = true
                              · subst c82
                                have H1 : (some false) = some r := by rw [if_pos rfl] at H; exact H
                                clear H
                                have H := H1
                                clear H1
                                obtain rfl := Option.some.inj H
                                go_wp2
                                go_ret
                                exact ⟨by first | rfl | (simp [errW_none, errW_some] <;> rfl) | (simp [*, errW_none, errW_some] <;> rfl), by repeat (first | (with_reducible first | exact HB.out | apply below_alloc | apply pw_below_drewN | apply below_drew1) | exact HB.out)⟩
                              · replace c82 := Bool.eq_false_iff.mpr c82
                                subst c82
                                have H1 : ((laws_heldSetS.f kj72 t628 1).bind fun t641 => (if t641 < 0 then (some false) else (if t641 = t627 then (some true) else (some false)))) = some r := by rw [if_neg (show ¬ (false = true) by decide)] at H; exact H
                                clear H
                                have H := H1
                                clear H1
                                replace H := Option.bind_eq_some_iff.mp H
                                obtain ⟨t641, A830, H⟩ := H
                                replace H : (if t641 < 0 then (some false) else (if t641 = t627 then (some true) else (some false))) = some r := H
                                have A83 := Aside0.mk A830
                                clear A830
                                have H0_ := Aside0.mk H
                                clear H
                                go_wp2_with (first | ((with_reducible refine gate_callee (f := 42) rfl ?_); refine goesL_ (some 123) rfl rfl Try.func42 (by kernel_rfl) rfl #[.slice Ao60 t628.length co60, .int .i64 1] rfl (by (try simp only [List.map_toArray, List.map_cons, List.map_nil]); first | done | rfl | (simp only [List.length_drop, List.length_take]; rfl)) ?_; (with_reducible refine (laws_heldSetS.calls kj72 _ _ t628 1 t641 _ ?side1 ?side2 A83.out).mono ?_); (case side1 => repeat (first | exact (Kd.R_reads' HO_14.out).2.2 | (with_reducible refine Kd.C_alloc ?_ _) | (with_reducible refine Kd.C_drewN ?_ _) | (with_reducible refine Kd.C_drew ?_))); (case side2 => exact (Kd.R_reads' HO_14.out).2.1); rintro e w' ⟨rfl, ⟨nd, rfl⟩⟩; refine ⟨_, rfl, ?_⟩; refine Stop0.out ?_))
                                refine Stop0.mk ?_
                                have H := H0_.out
                                clear H0_
                                by_cases c84 : t641 < 0
                                · rw [if_pos c84] at H
                                  have c84b0 : decide (t641 < 0) = true := decide_eq_true c84
                                  clear c84
                                  obtain rfl := Option.some.inj H
                                  go_wp2
                                  go_ret
                                  exact ⟨by first | rfl | (simp [errW_none, errW_some] <;> rfl) | (simp [*, errW_none, errW_some] <;> rfl), by repeat (first | (with_reducible first | exact HB.out | apply below_alloc | apply pw_below_drewN | apply below_drew1) | exact HB.out)⟩
                                · rw [if_neg c84] at H
                                  have c84b0 : decide (t641 < 0) = false := decide_eq_false c84
                                  clear c84
                                  by_cases c85 : t641 = t627
                                  · rw [if_pos c85] at H
                                    have c85b0 : (t641 == t627) = true := beq_iff_eq.mpr c85
                                    have c85b1 : (t641 != t627) = false := bne_eq_false_iff_eq.mpr c85
                                    clear c85
                                    obtain rfl := Option.some.inj H
                                    go_wp2
                                    go_ret
                                    exact ⟨by first | rfl | (simp [errW_none, errW_some] <;> rfl) | (simp [*, errW_none, errW_some] <;> rfl), by repeat (first | (with_reducible first | exact HB.out | apply below_alloc | apply pw_below_drewN | apply below_drew1) | exact HB.out)⟩
                                  · rw [if_neg c85] at H
                                    have c85b0 : (t641 == t627) = false := beq_eq_false_iff_ne.mpr c85
                                    have c85b1 : (t641 != t627) = true := bne_iff_ne.mpr c85
                                    obtain rfl := Option.some.inj H
                                    go_wp2
                                    go_ret
                                    exact ⟨by first | rfl | (simp [errW_none, errW_some] <;> rfl) | (simp [*, errW_none, errW_some] <;> rfl), by repeat (first | (with_reducible first | exact HB.out | apply below_alloc | apply pw_below_drewN | apply below_drew1) | exact HB.out)⟩
                        · rw [if_neg c64] at H
                          have c64b0 : (t629 == t627) = false := beq_eq_false_iff_ne.mpr c64
                          have c64b1 : (t629 != t627) = true := bne_iff_ne.mpr c64
                          obtain rfl := Option.some.inj H
                          go_wp2
                          go_ret
                          exact ⟨by first | rfl | (simp [errW_none, errW_some] <;> rfl) | (simp [*, errW_none, errW_some] <;> rfl), by repeat (first | (with_reducible first | exact HB.out | apply below_alloc | apply pw_below_drewN | apply below_drew1) | exact HB.out)⟩
              · replace c46 := Bool.eq_false_iff.mpr c46
                subst c46
                have H1 : (some false) = some r := by rw [if_neg (show ¬ (false = true) by decide)] at H; exact H
                clear H
                have H := H1
                clear H1
                obtain rfl := Option.some.inj H
                go_wp2
                go_ret
                exact ⟨by first | rfl | (simp [errW_none, errW_some] <;> rfl) | (simp [*, errW_none, errW_some] <;> rfl), by repeat (first | (with_reducible first | exact HB.out | apply below_alloc | apply pw_below_drewN | apply below_drew1) | exact HB.out)⟩
            · replace c40 := Bool.eq_false_iff.mpr c40
              subst c40
              have H1 : (some false) = some r := by rw [if_neg (show ¬ (false = true) by decide)] at H; exact H
              clear H
              have H := H1
              clear H1
              obtain rfl := Option.some.inj H
              go_wp2
              go_ret
              exact ⟨by first | rfl | (simp [errW_none, errW_some] <;> rfl) | (simp [*, errW_none, errW_some] <;> rfl), by repeat (first | (with_reducible first | exact HB.out | apply below_alloc | apply pw_below_drewN | apply below_drew1) | exact HB.out)⟩

end Go.Proofs.Ytgcagmmghckbbaa.A

/- Arguments of a law opened as plain data, kind by kind: what can be read at a type is a value of its kind. -/
namespace Go.Proofs.Ytgcagmmghckbbaa.Opn
open Go.RowKit Go.Proofs.YtgcagmmghckbbaaW.PrintWords

/-- What reads at type t is a value of kind d, of which ok holds. -/
def Op {α : Type} (P : Program) (t : TypeId) (d : Kd α) (ok : α → Prop) : Prop :=
  ∀ (H : Type) (enc : TypeId × Value → H) (W : World) (fuel : Nat) (cs : List Value) (x : DataW H × List MemPlace),
    DataW.trod enc P W 0 (fun _ => true) true fuel t cs = some x → ∃ a : α, d.K W a cs ∧ ok a
/-- The same of a struct's fields from one on, which begins at cell o. -/
def OpF {α : Type} (P : Program) (o : Nat) (fs : List Field) (d : Kd α) (ok : α → Prop) : Prop :=
  ∀ (H : Type) (enc : TypeId × Value → H) (W : World) (fuel : Nat) (cs : List Value) (xs : List (DataW H × List MemPlace)), cs.length = o + d.sz →
    xs.length = fs.length → (∀ (i : Nat) (f : Field), fs[i]? = some f → DataW.trod enc P W 0 (fun _ => true) true fuel f.type ((cs.drop f.offset).take (P.cellsOf f.type)) = xs[i]?) → ∃ a : α, d.K W a (cs.drop o) ∧ ok a
def okInt (k : IntKind) (n : Int) : Prop := (Lit.int k n).wf = true
def okAll {α : Type} (ok : α → Prop) (l : List α) : Prop := l.length ≤ maxLen ∧ ∀ x ∈ l, ok x
def okTwo {α β : Type} (ok : α → Prop) (ok' : β → Prop) (x : α × β) : Prop := ok x.1 ∧ ok' x.2

theorem Op.int {P : Program} {t : TypeId} {k : IntKind} (ht : P.underlying t = some (.int k)) : Op P t (Kd.int k) (okInt k) := by
  intro H enc W fuel cs x h
  obtain ⟨n, rfl, _, hw⟩ := DataW.trod_int ht h
  exact ⟨n, rfl, hw⟩
theorem Op.iso {α β : Type} {P : Program} {t : TypeId} {d : Kd α} {ok : α → Prop} (h : Op P t d ok) (f : β → α) (g : α → β) (hfg : ∀ a, f (g a) = a) : Op P t (Kd.iso d f) (fun b => ok (f b)) := by
  intro H enc W fuel cs x hx
  obtain ⟨a, ha, hok⟩ := h H enc W fuel cs x hx
  refine ⟨g a, ?_, ?_⟩
  · show d.K W (f (g a)) cs
    rw [hfg]
    exact ha
  · show ok (f (g a))
    rw [hfg]
    exact hok
theorem list_of_lt {α : Type} {p : Nat → α → Prop} : ∀ n, (∀ i, i < n → ∃ a, p i a) → ∃ l : List α, l.length = n ∧ ∀ i a, l[i]? = some a → p i a
  | 0, _ => ⟨[], rfl, fun i a h => by simp at h⟩
  | n + 1, h => by
    obtain ⟨l, hl, hp⟩ := list_of_lt n (fun i hi => h i (by omega))
    obtain ⟨a, ha⟩ := h n (by omega)
    refine ⟨l ++ [a], by simp [hl], fun i b hb => ?_⟩
    by_cases hi : i < l.length
    · rw [List.getElem?_append_left hi] at hb
      exact hp i b hb
    · have hlt : i < (l ++ [a]).length := (List.getElem?_eq_some_iff.1 hb).1
      simp at hlt
      have : i = l.length := by omega
      subst this
      have hab : a = b := by simpa using hb
      subst hab
      rw [hl]
      exact ha
theorem Op.slice {α : Type} {P : Program} {t e : TypeId} {d : Kd α} {ok : α → Prop} (ht : P.underlying t = some (.slice e)) (hc : P.cellsOf e = d.sz) (h : Op P e d ok) :
    Op P t (Kd.slice e d) (okAll ok) := by
  intro H enc W fuel cs x hx
  rcases Deep.open_slice ht hx with ⟨rfl, _⟩ | ⟨a, len, cap, m, n, D, Pl, rfl, hb, hl, hm, hmm, _, hel⟩
  · exact ⟨[], ⟨none, 0, rfl, Nat.le_refl _, rfl, by simp, fun h => absurd h (by simp)⟩, by simp [okAll]⟩
  · rw [if_pos rfl] at hmm
    subst hmm
    obtain ⟨l, hlen, hl2⟩ := list_of_lt (p := fun i (y : α) => (∃ c, c.length = d.sz ∧ d.K W y c ∧ ∀ j u, c[j]? = some u → W.cell? (a.add (i * d.sz + j)) = some u) ∧ ok y) len (fun i hi => by
      obtain ⟨cs', h1, h2⟩ := hel i (by omega)
      obtain ⟨y, hy, hok⟩ := h H enc W n cs' _ h2
      obtain ⟨_, h3, h4⟩ := World.cells?_some h1
      refine ⟨y, ⟨cs', d.K_len hy, hy, fun j u hu => ?_⟩, hok⟩
      have hj : j < P.cellsOf e := by rw [← h3]; exact (List.getElem?_eq_some_iff.1 hu).1
      have h5 := h4 j hj
      rw [← hu, ← h5, hc, Addr.add_add])
    unfold maxLen at hm
    refine ⟨l, ⟨some a, m, by rw [hlen], by omega, rfl, by omega, fun _ => ⟨a, rfl, fun j p hj => (hl2 j p hj).1⟩⟩, by unfold maxLen; omega, fun y hy => ?_⟩
    obtain ⟨i, hi, rfl⟩ := List.getElem_of_mem hy
    exact (hl2 i _ (List.getElem?_eq_getElem hi)).2
theorem OpF.one {α : Type} {P : Program} {o : Nat} {f : Field} {d : Kd α} {ok : α → Prop} (ho : f.offset = o) (hc : P.cellsOf f.type = d.sz) (h : Op P f.type d ok) : OpF P o [f] d ok := by
  intro H enc W fuel cs xs hl hn hx
  match xs, hn with
  | [y], _ =>
  have hy := hx 0 f rfl
  simp only [List.getElem?_cons_zero] at hy
  rw [ho, hc, List.take_of_length_le (by simp; omega)] at hy
  exact h H enc W fuel _ _ hy
theorem OpF.cons {α β : Type} {P : Program} {o : Nat} {f : Field} {fs : List Field} {d : Kd α} {d' : Kd β} {ok : α → Prop} {ok' : β → Prop} (ho : f.offset = o) (hc : P.cellsOf f.type = d.sz) (h : Op P f.type d ok)
    (hr : OpF P (o + d.sz) fs d' ok') : OpF P o (f :: fs) (Kd.pair d d') (okTwo ok ok') := by
  intro H enc W fuel cs xs hl hn hx
  match xs, hn with
  | y :: ys, hn =>
  have hy := hx 0 f rfl
  have hys : ∀ (i : Nat) (f : Field), fs[i]? = some f → DataW.trod enc P W 0 (fun _ => true) true fuel f.type ((cs.drop f.offset).take (P.cellsOf f.type)) = ys[i]? := fun i g hg => by simpa using hx (i + 1) g (by simpa using hg)
  simp only [List.getElem?_cons_zero] at hy
  rw [ho, hc] at hy
  obtain ⟨a, ha, hok⟩ := h H enc W fuel _ _ hy
  obtain ⟨b, hb, hok'⟩ := hr H enc W fuel cs ys (by rw [hl]; show o + (d.sz + d'.sz) = _; omega) (by simpa using hn) hys
  refine ⟨(a, b), ⟨_, _, ?_, ha, hb⟩, hok, hok'⟩
  rw [← List.drop_drop, List.take_append_drop]
theorem Op.struct {α : Type} {P : Program} {t : TypeId} {fs : Array Field} {d : Kd α} {ok : α → Prop} (ht : P.underlying t = some (.struct fs)) (hc : P.cellsOf t = d.sz) (h : OpF P 0 fs.toList d ok) : Op P t d ok := by
  intro H enc W fuel cs x hx
  obtain ⟨xs, n, _, _, hl, hn, hxs⟩ := DataW.trod_struct ht hx
  obtain ⟨a, ha, hok⟩ := h H enc W n cs xs (by omega) (by simpa using hn) (fun i f hf => hxs i f (by simpa using hf))
  exact ⟨a, by simpa using ha, hok⟩
end Go.Proofs.Ytgcagmmghckbbaa.Opn

/- The plain statement of the law FnExactTurnLayout, over numbers and lists alone, and how its arguments are opened. -/
namespace Go.Proofs.Ytgcagmmghckbbaa.A
open Go.RowKit Go.Proofs.YtgcagmmghckbbaaW.PrintWords Go.Proofs.YtgcagmmghckbbaaW.PrintLast Go.Proofs.YtgcagmmghckbbaaW.PrintMore
def ok23 (x : S23) : Prop := (Go.Proofs.Ytgcagmmghckbbaa.Opn.okTwo (Go.Proofs.Ytgcagmmghckbbaa.Opn.okInt .i64) (Go.Proofs.Ytgcagmmghckbbaa.Opn.okTwo (Go.Proofs.Ytgcagmmghckbbaa.Opn.okInt .i64) (Go.Proofs.Ytgcagmmghckbbaa.Opn.okTwo (Go.Proofs.Ytgcagmmghckbbaa.Opn.okInt .i64) (Go.Proofs.Ytgcagmmghckbbaa.Opn.okInt .i64)))) (x.f0, x.f1, x.f2, x.f3)
def ok78 (x : S78) : Prop := (Go.Proofs.Ytgcagmmghckbbaa.Opn.okTwo (Go.Proofs.Ytgcagmmghckbbaa.Opn.okInt .i64) (Go.Proofs.Ytgcagmmghckbbaa.Opn.okInt .i64)) (x.f0, x.f1)
theorem op2 : Go.Proofs.Ytgcagmmghckbbaa.Opn.Op Try.prog 2 (Kd.int .i64) (Go.Proofs.Ytgcagmmghckbbaa.Opn.okInt .i64) := Go.Proofs.Ytgcagmmghckbbaa.Opn.Op.int Try.underlying2
theorem op23 : Go.Proofs.Ytgcagmmghckbbaa.Opn.Op Try.prog 23 k23 ok23 := Go.Proofs.Ytgcagmmghckbbaa.Opn.Op.iso (Go.Proofs.Ytgcagmmghckbbaa.Opn.Op.struct Try.underlying23 (by kernel_rfl) (Go.Proofs.Ytgcagmmghckbbaa.Opn.OpF.cons rfl (by kernel_rfl) op2 (Go.Proofs.Ytgcagmmghckbbaa.Opn.OpF.cons rfl (by kernel_rfl) op2 (Go.Proofs.Ytgcagmmghckbbaa.Opn.OpF.cons rfl (by kernel_rfl) op2 (Go.Proofs.Ytgcagmmghckbbaa.Opn.OpF.one rfl (by kernel_rfl) op2))))) (fun x : S23 => (x.f0, x.f1, x.f2, x.f3)) (fun p => ⟨p.1, p.2.1, p.2.2.1, p.2.2.2⟩) (fun _ => rfl)
theorem op30 : Go.Proofs.Ytgcagmmghckbbaa.Opn.Op Try.prog 30 (Kd.slice 23 k23) (Go.Proofs.Ytgcagmmghckbbaa.Opn.okAll ok23) := Go.Proofs.Ytgcagmmghckbbaa.Opn.Op.slice Try.underlying30 (by kernel_rfl) op23
theorem op78 : Go.Proofs.Ytgcagmmghckbbaa.Opn.Op Try.prog 78 k78 ok78 := Go.Proofs.Ytgcagmmghckbbaa.Opn.Op.iso (Go.Proofs.Ytgcagmmghckbbaa.Opn.Op.struct Try.underlying78 (by kernel_rfl) (Go.Proofs.Ytgcagmmghckbbaa.Opn.OpF.cons rfl (by kernel_rfl) op2 (Go.Proofs.Ytgcagmmghckbbaa.Opn.OpF.one rfl (by kernel_rfl) op2))) (fun x : S78 => (x.f0, x.f1)) (fun p => ⟨p.1, p.2⟩) (fun _ => rfl)
theorem op48 : Go.Proofs.Ytgcagmmghckbbaa.Opn.Op Try.prog 48 (Kd.slice 78 k78) (Go.Proofs.Ytgcagmmghckbbaa.Opn.okAll ok78) := Go.Proofs.Ytgcagmmghckbbaa.Opn.Op.slice Try.underlying48 (by kernel_rfl) op78
def FnExactTurnLayout.Pure : Prop := ∀ (a0 : List (S23)) (a1 : Int) (a2 : Int) (a3 : List (S78)), (Go.Proofs.Ytgcagmmghckbbaa.Opn.okAll ok23) a0 → (Go.Proofs.Ytgcagmmghckbbaa.Opn.okInt .i64) a1 → (Go.Proofs.Ytgcagmmghckbbaa.Opn.okInt .i64) a2 → (Go.Proofs.Ytgcagmmghckbbaa.Opn.okAll ok78) a3 → ∃ k, laws_FnExactTurnLayout.f k a0 a1 a2 a3 = some true
end Go.Proofs.Ytgcagmmghckbbaa.A



/- Plain words on rounds: loops over a list by its index, in 'from some number of rounds on' form. No program in sight. -/
namespace Go.Proofs.YtgcagmmghckbbaaW.PrintMore
open Go.RowKit Go.Proofs.YtgcagmmghckbbaaW.PrintWords

theorem wrap_id {x : Int} (h0 : -9223372036854775808 ≤ x) (h1 : x ≤ 9223372036854775807) : wrap64 x = x := by unfold wrap64; omega
theorem wrap_succ (j : Nat) (h : j < 9223372036854775807) : wrap64 ((j : Int) + 1) = ((j + 1 : Nat) : Int) := by unfold wrap64; omega
theorem Ev.val {α : Type} {g : Nat → Option α} {r : α} (h : ∀ k, g k = some r) : Ev g r := ⟨0, fun k _ => h k⟩
theorem Ev.bindc {α β : Type} {g : Option α} {f : Nat → α → Option β} {a : α} {r : β} (h : g = some a) (k : Ev (fun n => f n a) r) : Ev (fun n => g.bind (f n)) r := by
  subst h
  exact k
theorem Ev.succ {α : Type} {g : Nat → Option α} {r : α} (h : Ev (fun k => g (k + 1)) r) : Ev g r := Ev.step (fun _ => rfl) h
/-- A loop over a list by its index: from place j on it comes to 'v' of its state and of what is left. -/
theorem ev_list {α σ β : Type} (xs : List α) (l : σ → Int → Nat → Option β) (v : σ → List α → β)
    (hd : ∀ s, Ev (l s (xs.length : Int)) (v s []))
    (hs : ∀ s (j : Nat) (h : j < xs.length), (∀ s', Ev (l s' ((j + 1 : Nat) : Int)) (v s' (xs.drop (j + 1)))) → Ev (l s (j : Int)) (v s (xs[j] :: xs.drop (j + 1)))) :
    ∀ (n j : Nat) (s : σ), j + n = xs.length → Ev (l s (j : Int)) (v s (xs.drop j)) := by
  intro n
  induction n with
  | zero =>
    intro j s h
    have : j = xs.length := by omega
    subst this
    rw [List.drop_length]
    exact hd s
  | succ n ih =>
    intro j s h
    have hj : j < xs.length := by omega
    rw [List.drop_eq_getElem_cons hj]
    exact hs s j hj (fun s' => ih (j + 1) s' (by omega))
theorem ev_list0 {α σ β : Type} (xs : List α) (l : σ → Int → Nat → Option β) (v : σ → List α → β)
    (hd : ∀ s, Ev (l s (xs.length : Int)) (v s []))
    (hs : ∀ s (j : Nat) (h : j < xs.length), (∀ s', Ev (l s' ((j + 1 : Nat) : Int)) (v s' (xs.drop (j + 1)))) → Ev (l s (j : Int)) (v s (xs[j] :: xs.drop (j + 1)))) (s : σ) :
    Ev (l s 0) (v s xs) := by
  have := ev_list xs l v hd hs xs.length 0 s (by omega)
  simpa using this
/-- The same with an invariant of the state and the place. -/
theorem ev_listI {α σ β : Type} (xs : List α) (I : σ → Nat → Prop) (l : σ → Int → Nat → Option β) (v : σ → List α → β)
    (hd : ∀ s, I s xs.length → Ev (l s (xs.length : Int)) (v s []))
    (hs : ∀ s (j : Nat) (h : j < xs.length), I s j → (∀ s', I s' (j + 1) → Ev (l s' ((j + 1 : Nat) : Int)) (v s' (xs.drop (j + 1)))) → Ev (l s (j : Int)) (v s (xs[j] :: xs.drop (j + 1)))) :
    ∀ (n j : Nat) (s : σ), j + n = xs.length → I s j → Ev (l s (j : Int)) (v s (xs.drop j)) := by
  intro n
  induction n with
  | zero =>
    intro j s h hi
    have : j = xs.length := by omega
    subst this
    rw [List.drop_length]
    exact hd s hi
  | succ n ih =>
    intro j s h hi
    have hj : j < xs.length := by omega
    rw [List.drop_eq_getElem_cons hj]
    exact hs s j hj hi (fun s' hi' => ih (j + 1) s' (by omega) hi')
/-- A loop over places: an invariant, what is to be known of the answer, early ends. -/
theorem ev_inv {σ β : Type} (N : Nat) (I : σ → Nat → Prop) (Q : β → Prop) (l : σ → Int → Nat → Option β)
    (hd : ∀ s, I s N → ∃ r, Q r ∧ Ev (l s (N : Int)) r)
    (hs : ∀ s (j : Nat), j < N → I s j → (∃ r, Q r ∧ Ev (l s (j : Int)) r) ∨ ∃ s', I s' (j + 1) ∧ ∀ r, Ev (l s' ((j + 1 : Nat) : Int)) r → Ev (l s (j : Int)) r) :
    ∀ (n j : Nat) (s : σ), j + n = N → I s j → ∃ r, Q r ∧ Ev (l s (j : Int)) r := by
  intro n
  induction n with
  | zero =>
    intro j s h hi
    have : j = N := by omega
    subst this
    exact hd s hi
  | succ n ih =>
    intro j s h hi
    rcases hs s j (by omega) hi with h1 | ⟨s', hi', h1⟩
    · exact h1
    · obtain ⟨r, hq, hr⟩ := ih (j + 1) s' (by omega) hi'
      exact ⟨r, hq, h1 r hr⟩
theorem ev_inv0 {σ β : Type} (N : Nat) (I : σ → Nat → Prop) (Q : β → Prop) (l : σ → Int → Nat → Option β)
    (hd : ∀ s, I s N → ∃ r, Q r ∧ Ev (l s (N : Int)) r)
    (hs : ∀ s (j : Nat), j < N → I s j → (∃ r, Q r ∧ Ev (l s (j : Int)) r) ∨ ∃ s', I s' (j + 1) ∧ ∀ r, Ev (l s' ((j + 1 : Nat) : Int)) r → Ev (l s (j : Int)) r)
    (s : σ) (h0 : I s 0) : ∃ r, Q r ∧ Ev (l s 0) r := ev_inv N I Q l hd hs N 0 s (by omega) h0
/-- The same where the answer is known. -/
theorem ev_at {σ β : Type} (N : Nat) (I : σ → Nat → Prop) (r : β) (l : σ → Int → Nat → Option β)
    (hd : ∀ s, I s N → Ev (l s (N : Int)) r)
    (hs : ∀ s (j : Nat), j < N → I s j → ∃ s', I s' (j + 1) ∧ (Ev (l s' ((j + 1 : Nat) : Int)) r → Ev (l s (j : Int)) r))
    (s : σ) (h0 : I s 0) : Ev (l s 0) r := by
  have key : ∀ (n j : Nat) (s : σ), j + n = N → I s j → Ev (l s (j : Int)) r := by
    intro n
    induction n with
    | zero =>
      intro j s h hi
      have : j = N := by omega
      subst this
      exact hd s hi
    | succ n ih =>
      intro j s h hi
      obtain ⟨s', hi', h1⟩ := hs s j (by omega) hi
      exact h1 (ih (j + 1) s' (by omega) hi')
  exact key N 0 s (by omega) h0
theorem set_fill {α β : Type} (f : α → β) (z : β) (xs : List α) (j : Nat) (h : j < xs.length) :
    ((xs.take j).map f ++ List.replicate (xs.length - j) z).set j (f xs[j]) = (xs.take (j + 1)).map f ++ List.replicate (xs.length - (j + 1)) z := by
  have hl : ((xs.take j).map f).length = j := by simp; omega
  rw [List.set_append_right _ _ (by omega), hl, Nat.sub_self, List.take_succ_eq_append_getElem h, List.map_append, List.append_assoc]
  obtain ⟨m, hm⟩ : ∃ m, xs.length - j = m + 1 := ⟨xs.length - j - 1, by omega⟩
  rw [hm, show xs.length - (j + 1) = m from by omega, List.replicate_succ, List.set_cons_zero]
  rfl
theorem rd_nat (xs : List Int) (j : Nat) (h : j < xs.length) : rd xs (j : Int) = xs[j] := by unfold rd; simp [h]
theorem getD_nat {α : Type} (xs : List α) (d : α) (j : Nat) (h : j < xs.length) : xs.getD ((j : Int).toNat) d = xs[j] := by simp [h]
theorem getD_at {α : Type} (xs : List α) (d : α) (j : Nat) (h : j < xs.length) : xs.getD j d = xs[j] := by simp [h]
end Go.Proofs.YtgcagmmghckbbaaW.PrintMore

/- Plain laws of the jigsaw's small functions: ranges, tiles, turns. No memory in sight. -/
namespace Go.Proofs.Ytgcagmmghckbbaa.A
open Go.RowKit Go.Proofs.YtgcagmmghckbbaaW.PrintWords Go.Proofs.YtgcagmmghckbbaaW.PrintLast Go.Proofs.YtgcagmmghckbbaaW.PrintMore

abbrev Tl := S24
def inB (x lo hi : Int) : Bool := decide (lo ≤ x) && decide (x ≤ hi)
theorem l01In_eq (a b c : Int) : spec_l01In.f a b c = some (inB a b c) := by
  unfold spec_l01In.f inB
  by_cases h : a ≥ b
  · rw [if_pos h]; simp; omega
  · rw [if_neg h]; simp; omega
theorem within_eq (a b c : Int) : impl_within.f a b c = some (inB a b c) := by
  unfold impl_within.f inB
  by_cases h : a ≥ b
  · rw [if_pos h]; simp; omega
  · rw [if_neg h]; simp; omega
def okE (x : Int) : Bool := inB x (-9) 9
def okT (t : Tl) : Bool := okE t.f0 && (okE t.f1 && (okE t.f2 && okE t.f3))
theorem isTile_eq (t : Tl) : impl_isTile.f t.f0 t.f1 t.f2 t.f3 = some (okT t) := by
  unfold impl_isTile.f okT okE
  simp only [within_eq, Option.bind_some]
  cases inB t.f0 (-9) 9 <;> cases inB t.f1 (-9) 9 <;> cases inB t.f2 (-9) 9 <;> simp
theorem notTile_eq : impl_areTiles.p = fun t => !okT t := by
  funext t
  unfold impl_areTiles.p
  rw [isTile_eq]
  rfl
theorem areTiles_eq (k : Nat) (l : List Tl) : impl_areTiles.f k l = some (l.all okT) := by
  unfold impl_areTiles.f
  rw [notTile_eq]
  simp [List.all_eq_not_any_not]
theorem l30Codes_eq (a b c d : Int) : spec_l30Codes.f a b c d = some [a, b, c, d] := rfl
theorem l30Valid_round (k : Nat) (x0 : List Tl) (x3 a b c d : Int) :
    spec_l30Valid.l1 (k + 5) x0 x3 [a, b, c, d] 0 = if okE a && (okE b && (okE c && okE d)) then spec_l30Valid.l0 k x0 (wrap64 (x3 + 1)) else some false := by
  simp only [spec_l30Valid.l1, l01In_eq, Option.bind_some, rd]
  cases ha : okE a <;> cases hb : okE b <;> cases hc : okE c <;> cases hd : okE d <;> simp_all [okE, wrap64]
theorem l30Valid_ev (xs : List Tl) (h : xs.length ≤ maxLen) : Ev (fun k => spec_l30Valid.f k xs) (xs.all okT) := by
  unfold spec_l30Valid.f
  unfold maxLen at h
  refine ev_list0 xs (fun (_ : Unit) i k => spec_l30Valid.l0 k xs i) (fun _ l => l.all okT) (fun _ => ?_) (fun _ j hj ih => ?_) ()
  · exact Ev.step (f := fun _ => some true) (fun k => by simp only [spec_l30Valid.l0]; rw [if_neg (by omega)]) (Ev.now _)
  · refine Ev.step (f := fun k => spec_l30Valid.l1 k xs j [xs[j].f0, xs[j].f1, xs[j].f2, xs[j].f3] 0) (fun k => by
      simp only [spec_l30Valid.l0]
      rw [if_pos (by omega), if_pos (by omega)]
      simp only [l30Codes_eq, Option.bind_some, rd_T24, getD_nat xs _ j hj]) ?_
    obtain ⟨K, hK⟩ := ih ()
    refine ⟨K + 5, fun k hk => ?_⟩
    obtain ⟨m, rfl⟩ : ∃ m, k = m + 5 := ⟨k - 5, by omega⟩
    show spec_l30Valid.l1 (m + 5) _ _ _ _ = _
    rw [l30Valid_round, wrap_succ j (by omega), List.all_cons]
    show (if okT xs[j] = true then _ else _) = _
    cases okT xs[j]
    · rfl
    · simp only [if_true, Bool.true_and]
      exact hK m (by omega)
def turnT (t : Tl) (n : Int) : Tl := if n = 0 then t else if n = 1 then ⟨t.f3, t.f0, t.f1, t.f2⟩ else if n = 2 then ⟨t.f2, t.f3, t.f0, t.f1⟩ else ⟨t.f1, t.f2, t.f3, t.f0⟩
def tup (t : Tl) : Int × Int × Int × Int := (t.f0, t.f1, t.f2, t.f3)
theorem l30Turn_eq (t : Tl) (n : Int) (h0 : 0 ≤ n) (h1 : n ≤ 3) : spec_l30Turn.f t.f0 t.f1 t.f2 t.f3 n = some (tup (turnT t n)) := by
  unfold spec_l30Turn.f
  rw [l30Codes_eq, Option.bind_some]
  have : n = 0 ∨ n = 1 ∨ n = 2 ∨ n = 3 := by omega
  rcases this with rfl | rfl | rfl | rfl <;> simp [wrap64, rd, turnT, tup]
theorem turnTile_at (t : Tl) (n : Int) (h0 : 0 ≤ n) (h1 : n ≤ 3) (k : Nat) : impl_turnTile.f (k + 4) t.f0 t.f1 t.f2 t.f3 n = some (tup (turnT t n)) := by
  unfold impl_turnTile.f
  have : n = 0 ∨ n = 1 ∨ n = 2 ∨ n = 3 := by omega
  rcases this with rfl | rfl | rfl | rfl <;> simp [impl_turnTile.l0, wrap64, turnT, tup]
theorem turnTile_ev (t : Tl) (n : Int) (h0 : 0 ≤ n) (h1 : n ≤ 3) : Ev (fun k => impl_turnTile.f k t.f0 t.f1 t.f2 t.f3 n) (tup (turnT t n)) :=
  ⟨4, fun k hk => by
    obtain ⟨m, rfl⟩ : ∃ m, k = m + 4 := ⟨k - 4, by omega⟩
    exact turnTile_at t n h0 h1 m⟩
theorem inB_iff (x a b : Int) : inB x a b = true ↔ a ≤ x ∧ x ≤ b := by unfold inB; simp
end Go.Proofs.Ytgcagmmghckbbaa.A












/- Plain laws of what the laws do with tiles and numbers: copies, marks, comparisons; sums of edges, flat edges. -/
namespace Go.Proofs.Ytgcagmmghckbbaa.A
set_option linter.unusedSimpArgs false
set_option linter.unusedVariables false
open Go.RowKit Go.Proofs.YtgcagmmghckbbaaW.PrintWords Go.Proofs.YtgcagmmghckbbaaW.PrintLast Go.Proofs.YtgcagmmghckbbaaW.PrintMore

def toTl (x : S23) : Tl := ⟨x.f0, x.f1, x.f2, x.f3⟩
theorem toTileS_ev (l : List S23) (h : l.length ≤ 1048576) : Ev (fun k => laws_toTileS.f k l) (l.map toTl) := by
  unfold laws_toTileS.f
  simp only [Int.toNat_natCast, show (0 : Int) ≤ l.length from by omega, show l.length ≤ 8796093022208 from by omega, if_true]
  refine ev_at l.length (fun s j => s = (l.take j).map toTl ++ List.replicate (l.length - j) z24) (l.map toTl) (fun s i k => laws_toTileS.l0 k l s i) (fun s hi => ?_) (fun s j hj hi => ?_) _ (by simp)
  · refine Ev.step (f := fun _ => some s) (fun k => by simp only [laws_toTileS.l0]; rw [if_neg (by omega)]) ?_
    rw [hi]
    simpa using Ev.now _
  · have hl : s.length = l.length := by rw [hi]; simp; omega
    refine ⟨s.set j (toTl l[j]), by rw [hi]; exact set_fill toTl _ l j hj, fun h2 => Ev.step (fun k => ?_) h2⟩
    simp only [laws_toTileS.l0, laws_toTile.f, Option.bind_some]
    rw [if_pos (by omega), if_pos (by omega), if_pos (by omega), wrap_succ j (by omega)]
    simp only [rd_T23, getD_at l _ j hj, Int.toNat_natCast]
    rfl
theorem szTileS_in (l : List S23) (h : l.length ≤ 1048576) : laws_szTileS.f l 1048576 = some (1048576 - (l.length : Int)) := by
  unfold laws_szTileS.f
  rw [show wrap64 (1048576 - (l.length : Int)) = 1048576 - (l.length : Int) from by unfold wrap64; omega, if_neg (by omega)]
theorem szTileS_out (l : List S23) (hm : l.length ≤ maxLen) (h : ¬ l.length ≤ 1048576) : laws_szTileS.f l 1048576 = some (-1) := by
  unfold maxLen at hm
  unfold laws_szTileS.f
  rw [if_pos (by unfold wrap64; omega)]
theorem eqTileS_ev (l : List Tl) (h : l.length ≤ 1048576) : Ev (fun k => laws_eqTileS.f k l l) true := by
  unfold laws_eqTileS.f
  simp only [if_true]
  refine ev_at l.length (fun (_ : Unit) _ => True) true (fun _ i k => laws_eqTileS.l0 k l l i) (fun s hi => ?_) (fun s j hj hi => ?_) () trivial
  · exact Ev.step (f := fun _ => some true) (fun k => by simp only [laws_eqTileS.l0]; rw [if_neg (by omega)]) (Ev.now _)
  · refine ⟨(), trivial, fun h2 => Ev.step (fun k => ?_) h2⟩
    simp only [laws_eqTileS.l0, laws_eqTile.f, if_true, Option.bind_some]
    rw [if_pos (by omega), if_pos (by omega), if_pos (by omega), wrap_succ j (by omega)]
theorem markTileS_ev (l : List Tl) (h : l.length ≤ 1048576) : ∃ r, r.1 = 1 + 4 * (l.length : Int) ∧ Ev (fun k => laws_markTileS.f k l 1) r := by
  unfold laws_markTileS.f
  refine ev_inv0 l.length (fun (s : List Tl × Int) j => s.1.length = l.length ∧ s.2 = 1 + 4 * (j : Int)) (fun r => r.1 = 1 + 4 * (l.length : Int)) (fun s i k => laws_markTileS.l0 k s.1 s.2 i) (fun s hi => ?_) (fun s j hj hi => .inr ?_) (l, 1) ⟨rfl, by simp⟩
  · refine ⟨(s.2, s.1), by simp only; omega, Ev.step (f := fun _ => some (s.2, s.1)) (fun k => by simp only [laws_markTileS.l0]; rw [if_neg (by omega)]) (Ev.now _)⟩
  · have e : wrap64 (wrap64 (wrap64 (wrap64 (s.2 + 1) + 1) + 1) + 1) = s.2 + 4 := by have := hi.2; unfold wrap64; omega
    obtain ⟨X, hX, hl⟩ : ∃ X : List Tl, (∀ k, laws_markTileS.l0 (k + 1) s.1 s.2 (j : Int) = laws_markTileS.l0 k X (s.2 + 4) ((j + 1 : Nat) : Int)) ∧ X.length = s.1.length :=
      ⟨_, fun k => by
        simp only [laws_markTileS.l0, Option.bind_some]
        rw [if_pos (by omega), if_pos (by omega), wrap_succ j (by omega), e], by simp⟩
    exact ⟨(X, s.2 + 4), ⟨by simp only; omega, by simp only; omega⟩, fun r h2 => Ev.step hX h2⟩
end Go.Proofs.Ytgcagmmghckbbaa.A



/- Plain laws of layouts: codes, what fits, what is a correct layout. -/
namespace Go.Proofs.Ytgcagmmghckbbaa.A
set_option linter.unusedSimpArgs false
set_option linter.unusedVariables false
open Go.RowKit Go.Proofs.YtgcagmmghckbbaaW.PrintWords Go.Proofs.YtgcagmmghckbbaaW.PrintLast Go.Proofs.YtgcagmmghckbbaaW.PrintMore
abbrev St := S74
/-- The code of a jigsaw. -/
def codeV (l : List Tl) (w h : Int) : Int := if l.all okT then if inB w 1 6 && (inB h 1 6 && (decide (w * h = l.length) && decide (l.length ≤ 12))) then 0 else 2 else 1
theorem code_tail (w h n : Int) (hw : inB w 1 6 = true) (hh : inB h 1 6 = true) : wrap64 (w * h) = w * h := by
  obtain ⟨a, b⟩ := (inB_iff _ _ _).1 hw
  obtain ⟨c, d⟩ := (inB_iff _ _ _).1 hh
  have h1 : 0 ≤ w * h := Int.mul_nonneg (by omega) (by omega)
  have h2 : w * h ≤ 6 * 6 := Int.mul_le_mul b d (by omega) (by omega)
  exact wrap_id (by omega) (by omega)
theorem l30Code_ev (l : List Tl) (w h : Int) (hl : l.length ≤ 1048576) : Ev (fun k => spec_l30Code.f k l w h) (codeV l w h) := by
  unfold spec_l30Code.f codeV
  refine Ev.bind (l30Valid_ev l (by simp [maxLen]; omega)) (Ev.val fun k => ?_)
  cases l.all okT
  · rfl
  · simp only [if_true, l01In_eq, Option.bind_some]
    cases hw : inB w 1 6
    · rfl
    · cases hh : inB h 1 6
      · rfl
      · simp only [if_true, code_tail w h 0 hw hh, Bool.true_and]
        by_cases c : w * h = (l.length : Int)
        · by_cases d : l.length ≤ 12
          · simp [c, d]; omega
          · simp [c, d]; omega
        · simp [c]
theorem jigsawCode_ev (l : List Tl) (w h : Int) : Ev (fun k => impl_jigsawCode.f k l w h) (codeV l w h) := by
  unfold impl_jigsawCode.f codeV
  refine Ev.bind (Ev.val fun k => areTiles_eq k l) (Ev.val fun k => ?_)
  cases l.all okT
  · rfl
  · simp only [if_true, within_eq, Option.bind_some]
    cases hw : inB w 1 6
    · rfl
    · cases hh : inB h 1 6
      · rfl
      · simp only [if_true, code_tail w h 0 hw hh, Bool.true_and]
        by_cases c : w * h = (l.length : Int)
        · by_cases d : l.length ≤ 12
          · simp [c, d]; omega
          · simp [c, d]; omega
        · simp [c]
theorem codeV_zero {l : List Tl} {w h : Int} (hc : codeV l w h = 0) : l.all okT = true ∧ 1 ≤ w ∧ w ≤ 6 ∧ 1 ≤ h ∧ h ≤ 6 ∧ w * h = l.length ∧ l.length ≤ 12 := by
  unfold codeV at hc
  split at hc
  · rename_i h1
    split at hc
    · rename_i h2
      simp only [Bool.and_eq_true, inB_iff, decide_eq_true_eq] at h2
      exact ⟨h1, h2.1.1, h2.1.2, h2.2.1.1, h2.2.1.2, h2.2.2.1, h2.2.2.2⟩
    · omega
  · omega
def matchS (a b : Int) : Bool := if a = 0 then false else wrap64 (a + b) == 0
def matchI (a b : Int) : Bool := if a = 0 then false else if b = 0 then false else wrap64 (a + b) == 0
theorem okE_iff (x : Int) : okE x = true ↔ -9 ≤ x ∧ x ≤ 9 := inB_iff _ _ _
theorem match_eq (a b : Int) (ha : okE a = true) (hb : okE b = true) : matchI b a = matchS a b := by
  rw [okE_iff] at ha hb
  unfold matchI matchS
  rw [show wrap64 (b + a) = a + b from by unfold wrap64; omega, show wrap64 (a + b) = a + b from by unfold wrap64; omega]
  by_cases h1 : a = 0
  · simp [h1]
  · by_cases h2 : b = 0
    · simp [h2, h1]
    · simp [h1, h2]
theorem l30Match_eq (a b : Int) : spec_l30Match.f a b = some (matchS a b) := by
  unfold spec_l30Match.f matchS
  split <;> rfl
theorem implMatch_eq (a b : Int) : impl_match.f a b = some (matchI a b) := by
  unfold impl_match.f matchI
  split
  · rfl
  · split <;> rfl
def lastT (pl : List Tl) (i : Int) : Tl := rd_T24 pl i
def sideV (m : Int → Int → Bool) (z x y : Int) : Bool := if z = 0 then x == 0 else m x y
theorem spec_fits_j0 (k : Nat) (pl : List Tl) (w col row : Int) (b : Bool) (t : Tl) (h1 : 1 ≤ w) (h6 : w ≤ 6) (hc0 : 0 ≤ col) (hr0 : 0 ≤ row) (hcol : 0 < col → 1 ≤ pl.length) (hrow : 0 < row → w ≤ pl.length) (hl : pl.length ≤ 1048576) :
    spec_l30Fits.j0 (k + 1) pl w pl.length col row b t.f0 t.f1 t.f2 t.f3 = some (!b && (sideV matchS col t.f3 (lastT pl (pl.length - 1)).f1 && sideV matchS row t.f0 (lastT pl (pl.length - w)).f2)) := by
  have e1 : wrap64 ((pl.length : Int) - 1) = pl.length - 1 := by unfold wrap64; omega
  have e2 : wrap64 ((pl.length : Int) - w) = pl.length - w := by unfold wrap64; omega
  simp only [spec_l30Fits.j0, l30Match_eq, Option.bind_some, e1, e2]
  cases b
  · have a1 : (pl.length : Int) - 1 < pl.length := by omega
    have a2 : (pl.length : Int) - w < pl.length := by omega
    by_cases c : col = 0
    · by_cases r : row = 0
      · by_cases p : t.f3 = 0 <;> by_cases q : t.f0 = 0 <;> simp [sideV, c, r, p, q] <;> omega
      · have a3 : 0 ≤ (pl.length : Int) - w := by have := hrow (by omega); omega
        have a4 : 0 < row := by omega
        by_cases p : t.f3 = 0 <;> simp [sideV, c, r, p, a2, a3, a4, lastT] <;> omega
    · have a5 : 0 ≤ (pl.length : Int) - 1 := by have := hcol (by omega); omega
      have a6 : 0 < col := by omega
      by_cases r : row = 0
      · cases hm : matchS t.f3 (rd_T24 pl (pl.length - 1)).f1 <;> by_cases q : t.f0 = 0 <;> simp [sideV, c, r, q, a1, a5, a6, hm, lastT] <;> omega
      · have a3 : 0 ≤ (pl.length : Int) - w := by have := hrow (by omega); omega
        have a4 : 0 < row := by omega
        cases hm : matchS t.f3 (rd_T24 pl (pl.length - 1)).f1 <;> simp [sideV, c, r, a1, a2, a3, a4, a5, a6, hm, lastT] <;> omega
  · simp
theorem impl_fits_j0 (k : Nat) (pl : List Tl) (w col row : Int) (b : Bool) (t : Tl) (h1 : 1 ≤ w) (h6 : w ≤ 6) (hc0 : 0 ≤ col) (hr0 : 0 ≤ row) (hcol : 0 < col → 1 ≤ pl.length) (hrow : 0 < row → w ≤ pl.length) (hl : pl.length ≤ 1048576) :
    impl_fits.j0 (k + 1) pl w pl.length col row b t.f0 t.f1 t.f2 t.f3 = some (!b && (sideV (fun x y => matchI y x) col t.f3 (lastT pl (pl.length - 1)).f1 && sideV (fun x y => matchI y x) row t.f0 (lastT pl (pl.length - w)).f2)) := by
  have e1 : wrap64 ((pl.length : Int) - 1) = pl.length - 1 := by unfold wrap64; omega
  have e2 : wrap64 ((pl.length : Int) - w) = pl.length - w := by unfold wrap64; omega
  simp only [impl_fits.j0, implMatch_eq, Option.bind_some, e1, e2]
  cases b
  · have a1 : (pl.length : Int) - 1 < pl.length := by omega
    have a2 : (pl.length : Int) - w < pl.length := by omega
    by_cases c : col = 0
    · by_cases r : row = 0
      · by_cases p : t.f3 = 0 <;> by_cases q : t.f0 = 0 <;> simp [sideV, c, r, p, q] <;> omega
      · have a3 : 0 ≤ (pl.length : Int) - w := by have := hrow (by omega); omega
        have a4 : 0 < row := by omega
        by_cases p : t.f3 = 0 <;> simp [sideV, c, r, p, a2, a3, a4, lastT] <;> omega
    · have a5 : 0 ≤ (pl.length : Int) - 1 := by have := hcol (by omega); omega
      have a6 : 0 < col := by omega
      by_cases r : row = 0
      · cases hm : matchI (rd_T24 pl (pl.length - 1)).f1 t.f3 <;> by_cases q : t.f0 = 0 <;> simp [sideV, c, r, q, a1, a5, a6, hm, lastT] <;> omega
      · have a3 : 0 ≤ (pl.length : Int) - w := by have := hrow (by omega); omega
        have a4 : 0 < row := by omega
        cases hm : matchI (rd_T24 pl (pl.length - 1)).f1 t.f3 <;> simp [sideV, c, r, a1, a2, a3, a4, a5, a6, hm, lastT] <;> omega
  · simp
/-- Does a turned tile fit behind those that are placed? -/
def fitsV (pl : List Tl) (t : Tl) (w h : Int) : Bool :=
  !(((t.f1 == 0) != ((pl.length : Int) % w == w - 1)) || ((t.f2 == 0) != ((pl.length : Int) / w == h - 1))) &&
    (sideV matchS ((pl.length : Int) % w) t.f3 (lastT pl (pl.length - 1)).f1 && sideV matchS ((pl.length : Int) / w) t.f0 (lastT pl (pl.length - w)).f2)
theorem grid (n : Nat) (w : Int) (h1 : 1 ≤ w) : 0 ≤ (n : Int) % w ∧ 0 ≤ (n : Int) / w ∧ (n : Int) / w ≤ n ∧ (0 < (n : Int) % w → 1 ≤ n) ∧ (0 < (n : Int) / w → w ≤ n) := by
  refine ⟨Int.emod_nonneg _ (by omega), Int.ediv_nonneg (by omega) (by omega), Int.ediv_le_self _ (by omega), fun h => ?_, fun h => ?_⟩
  · rcases Nat.eq_zero_or_pos n with rfl | h0
    · simp at h
    · exact h0
  · rcases Int.lt_or_le (n : Int) w with h0 | h0
    · rw [Int.ediv_eq_zero_of_lt (by omega) h0] at h; omega
    · exact h0
theorem l30Fits_ev (pl : List Tl) (t : Tl) (w h : Int) (h1 : 1 ≤ w) (h6 : w ≤ 6) (hh1 : 1 ≤ h) (hh6 : h ≤ 6) (hl : pl.length ≤ 1048576) :
    Ev (fun k => spec_l30Fits.f k pl t.f0 t.f1 t.f2 t.f3 w h) (fitsV pl t w h) := by
  obtain ⟨g1, g2, g3, g4, g5⟩ := grid pl.length w h1
  have e1 : wrap64 (w - 1) = w - 1 := by unfold wrap64; omega
  have e2 : wrap64 (h - 1) = h - 1 := by unfold wrap64; omega
  have e3 : wrap64 ((pl.length : Int) / w) = pl.length / w := wrap_id (by omega) (by omega)
  refine ⟨1, fun k hk => ?_⟩
  obtain ⟨m, rfl⟩ : ∃ m, k = m + 1 := ⟨k - 1, by omega⟩
  unfold spec_l30Fits.f fitsV
  dsimp only
  rw [if_neg (by omega), e1, e2, e3]
  simp only [spec_fits_j0 _ _ _ _ _ _ _ h1 h6 g1 g2 g4 g5 hl]
  cases ((t.f1 == 0) != ((pl.length : Int) % w == w - 1)) <;> simp
theorem fits_ev (pl : List Tl) (t : Tl) (w h : Int) (h1 : 1 ≤ w) (h6 : w ≤ 6) (hh1 : 1 ≤ h) (hh6 : h ≤ 6) (hl : pl.length ≤ 1048576) (hp : pl.all okT = true) (ht : okT t = true) :
    Ev (fun k => impl_fits.f k t.f0 t.f1 t.f2 t.f3 pl w h) (fitsV pl t w h) := by
  obtain ⟨g1, g2, g3, g4, g5⟩ := grid pl.length w h1
  have e1 : wrap64 (w - 1) = w - 1 := by unfold wrap64; omega
  have e2 : wrap64 (h - 1) = h - 1 := by unfold wrap64; omega
  have e3 : wrap64 ((pl.length : Int) / w) = pl.length / w := wrap_id (by omega) (by omega)
  have hok : ∀ i : Int, 0 ≤ i → i < pl.length → okT (lastT pl i) = true := fun i h0 hi => by
    have hi' : i.toNat < pl.length := by omega
    rw [List.all_eq_true] at hp
    unfold lastT rd_T24
    rw [getD_at _ _ _ hi']
    exact hp _ (List.getElem_mem hi')
  have hparts : ∀ t : Tl, okT t = true → okE t.f0 = true ∧ okE t.f1 = true ∧ okE t.f2 = true ∧ okE t.f3 = true := fun t h => by
    unfold okT at h
    simpa using h
  have s1 : sideV (fun x y => matchI y x) ((pl.length : Int) % w) t.f3 (lastT pl (pl.length - 1)).f1 = sideV matchS ((pl.length : Int) % w) t.f3 (lastT pl (pl.length - 1)).f1 := by
    unfold sideV
    split
    · rfl
    · exact match_eq _ _ (hparts t ht).2.2.2 (hparts _ (hok _ (by have := g4 (by omega); omega) (by omega))).2.1
  have s2 : sideV (fun x y => matchI y x) ((pl.length : Int) / w) t.f0 (lastT pl (pl.length - w)).f2 = sideV matchS ((pl.length : Int) / w) t.f0 (lastT pl (pl.length - w)).f2 := by
    unfold sideV
    split
    · rfl
    · exact match_eq _ _ (hparts t ht).1 (hparts _ (hok _ (by have := g5 (by omega); omega) (by omega))).2.2.1
  refine ⟨1, fun k hk => ?_⟩
  obtain ⟨m, rfl⟩ : ∃ m, k = m + 1 := ⟨k - 1, by omega⟩
  unfold impl_fits.f fitsV
  dsimp only
  rw [if_neg (by omega), e1, e2, e3]
  simp only [impl_fits_j0 _ _ _ _ _ _ _ h1 h6 g1 g2 g4 g5 hl, s1, s2]
  rw [show (((pl.length : Int) % w == w - 1) != (t.f1 == 0)) = ((t.f1 == 0) != ((pl.length : Int) % w == w - 1)) from bne_comm, show (((pl.length : Int) / w == h - 1) != (t.f2 == 0)) = ((t.f2 == 0) != ((pl.length : Int) / w == h - 1)) from bne_comm]
  cases ((t.f1 == 0) != ((pl.length : Int) % w == w - 1)) <;> simp
end Go.Proofs.Ytgcagmmghckbbaa.A

/- Plain laws of layouts, the loops: whether a layout is correct, as the reference and as the program ask it. -/
namespace Go.Proofs.Ytgcagmmghckbbaa.A
set_option linter.unusedSimpArgs false
set_option linter.unusedVariables false
open Go.RowKit Go.Proofs.YtgcagmmghckbbaaW.PrintWords Go.Proofs.YtgcagmmghckbbaaW.PrintLast Go.Proofs.YtgcagmmghckbbaaW.PrintMore
def tileAt (tiles : List Tl) (i : Int) : Tl := rd_T24 tiles i
def setAt (l : List St) (i : Int) : St := rd_T74 l i
theorem setAt_nat (l : List St) (j : Nat) (h : j < l.length) : rd_T74 l (j : Int) = l[j] := by unfold rd_T74; exact getD_nat l _ j h
/-- Is what is left of a layout correct behind what is placed? -/
def corr (tiles : List Tl) (w h : Int) : List Tl → List Int → List St → Bool
  | _, _, [] => true
  | pl, seen, s :: r => inB s.f0 0 ((tiles.length : Int) - 1) && (inB s.f1 0 3 && (!(seen.contains s.f0) && (fitsV pl (turnT (tileAt tiles s.f0) s.f1) w h && corr tiles w h (pl ++ [turnT (tileAt tiles s.f0) s.f1]) (seen ++ [s.f0]) r)))
theorem l01Has_ev (l : List Int) (x : Int) (h : l.length ≤ 1048576) : Ev (fun k => spec_l01Has.f k l x) (l.contains x) := by
  unfold spec_l01Has.f
  refine ev_list0 l (fun (_ : Unit) i k => spec_l01Has.l0 k l x i) (fun _ r => r.contains x) (fun s => ?_) (fun s j hj ih => ?_) ()
  · exact Ev.step (f := fun _ => some false) (fun k => by simp only [spec_l01Has.l0]; rw [if_neg (by omega)]) (Ev.now _)
  · by_cases c : l[j] = x
    · refine Ev.step (f := fun _ => some true) (fun k => ?_) ?_
      · simp only [spec_l01Has.l0]
        rw [if_pos (by omega), if_pos (by omega), if_pos (by rw [rd_nat l j hj]; exact c)]
      · rw [List.contains_cons, c]
        simpa using Ev.now true
    · refine Ev.step (f := fun k => spec_l01Has.l0 k l x ((j + 1 : Nat) : Int)) (fun k => ?_) ?_
      · simp only [spec_l01Has.l0]
        rw [if_pos (by omega), if_pos (by omega), if_neg (by rw [rd_nat l j hj]; exact c), wrap_succ j (by omega)]
      · rw [List.contains_cons, show (x == l[j]) = false from by simpa using fun e => c e.symm]
        simpa using ih ()
theorem turnT_ok (t : Tl) (n : Int) (h : okT t = true) : okT (turnT t n) = true := by
  unfold okT at h ⊢
  simp only [Bool.and_eq_true] at h
  unfold turnT
  split
  · simp [h]
  · split
    · simp [h]
    · split <;> simp [h]
theorem tileAt_ok (tiles : List Tl) (i : Int) (h : tiles.all okT = true) (h0 : 0 ≤ i) (h1 : i < tiles.length) : okT (tileAt tiles i) = true := by
  rw [List.all_eq_true] at h
  unfold tileAt rd_T24
  have hi : i.toNat < tiles.length := by omega
  rw [getD_at _ _ _ hi]
  exact h _ (List.getElem_mem hi)
theorem wrap_pred (n : Nat) (h : n ≤ 1048576) : wrap64 ((n : Int) - 1) = (n : Int) - 1 := by unfold wrap64; omega
theorem spec_corr_ev (tiles : List Tl) (w h : Int) (l : List St) (hc : codeV tiles w h = 0) (hl : l.length ≤ 1048576) :
    Ev (fun k => spec_IsCorrectLayout.l0 k tiles w h l [] [] 0) (corr tiles w h [] [] l) := by
  obtain ⟨ho, hw1, hw6, hh1, hh6, hwh, hn⟩ := codeV_zero hc
  have := ev_listI l (fun (s : List Tl × List Int) j => s.1.length = j ∧ s.2.length = j) (fun s i k => spec_IsCorrectLayout.l0 k tiles w h l s.1 s.2 i) (fun s r => corr tiles w h s.1 s.2 r) (fun s hi => ?_) (fun s j hj hi ih => ?_) l.length 0 ([], []) (by omega) ⟨rfl, rfl⟩
  · simpa using this
  · exact Ev.step (f := fun _ => some true) (fun k => by simp only [spec_IsCorrectLayout.l0]; rw [if_neg (by omega)]) (Ev.now _)
  · have c1 : (j : Int) < (l.length : Int) := by omega
    have c2 : (0 : Int) ≤ (j : Int) := by omega
    refine Ev.succ ?_
    simp only [spec_IsCorrectLayout.l0, c1, c2, if_true, setAt_nat l j hj, wrap_pred _ (show tiles.length ≤ 1048576 by omega), l01In_eq, Option.bind_some]
    unfold corr
    cases h1 : inB l[j].f0 0 ((tiles.length : Int) - 1)
    · simpa using Ev.now false
    · obtain ⟨h1a, h1b⟩ := (inB_iff _ _ _).1 h1
      simp only [if_true, l01In_eq, Option.bind_some, Bool.true_and]
      cases h2 : inB l[j].f1 0 3
      · simpa using Ev.now false
      · obtain ⟨h2a, h2b⟩ := (inB_iff _ _ _).1 h2
        simp only [if_true, Bool.true_and]
        refine Ev.bind (l01Has_ev s.2 l[j].f0 (by omega)) ?_
        cases h3 : s.2.contains l[j].f0
        · simp only [Bool.false_eq_true, if_false, Bool.not_false, Bool.true_and, if_pos h1a, show l[j].f0 < (tiles.length : Int) from by omega, if_true]
          refine Ev.bindc (l30Turn_eq (rd_T24 tiles l[j].f0) l[j].f1 h2a h2b) ?_
          refine Ev.bind (l30Fits_ev s.1 (turnT (tileAt tiles l[j].f0) l[j].f1) w h hw1 hw6 hh1 hh6 (by omega)) ?_
          cases h4 : fitsV s.1 (turnT (tileAt tiles l[j].f0) l[j].f1) w h
          · simpa using Ev.now false
          · simp only [if_true, Bool.true_and, show s.2.length < 17592186044416 from by omega, show s.1.length < 4398046511104 from by omega]
            refine Ev.bindc (l30Turn_eq (rd_T24 tiles l[j].f0) l[j].f1 h2a h2b) ?_
            have := ih (s.1 ++ [turnT (tileAt tiles l[j].f0) l[j].f1], s.2 ++ [l[j].f0]) ⟨by simp [hi.1], by simp [hi.2]⟩
            rw [← wrap_succ j (by omega)] at this
            exact this
        · simpa using Ev.now false
theorem impl_corr_ev (tiles : List Tl) (w h : Int) (l : List St) (hc : codeV tiles w h = 0) (hl : l.length ≤ 1048576) :
    Ev (fun k => impl_isCorrect.l0 k tiles w h (List.replicate tiles.length false) [] l (l.length : Int) 0) (corr tiles w h [] [] l) := by
  obtain ⟨ho, hw1, hw6, hh1, hh6, hwh, hn⟩ := codeV_zero hc
  have := ev_listI l (fun (s : List Bool × List Tl × List Int) j => s.1.length = tiles.length ∧ s.2.1.length = j ∧ s.2.1.all okT = true ∧ ∀ i : Nat, i < tiles.length → s.1.getD i false = s.2.2.contains (i : Int)) (fun s i k => impl_isCorrect.l0 k tiles w h s.1 s.2.1 l (l.length : Int) i) (fun s r => corr tiles w h s.2.1 s.2.2 r) (fun s hi => ?_) (fun s j hj hi ih => ?_) l.length 0 (List.replicate tiles.length false, [], []) (by omega) ⟨by simp, rfl, rfl, fun i hi => by simp [List.getD_eq_getElem?_getD, hi]⟩
  · simpa using this
  · exact Ev.step (f := fun _ => some true) (fun k => by simp only [impl_isCorrect.l0]; rw [if_neg (by omega)]) (Ev.now _)
  · obtain ⟨i1, i2, i3, i4⟩ := hi
    have j1 : ∀ k a b, impl_isCorrect.j1 (k + 1) tiles w h s.1 s.2.1 l (l.length : Int) j true a b = some false := fun k a b => by simp [impl_isCorrect.j1]
    have c1 : (j : Int) < (l.length : Int) := by omega
    have c2 : (0 : Int) ≤ (j : Int) := by omega
    refine Ev.succ ?_
    simp only [impl_isCorrect.l0, c1, c2, if_true, setAt_nat l j hj, wrap_pred _ (show tiles.length ≤ 1048576 by omega), within_eq, Option.bind_some]
    unfold corr
    cases h1 : inB l[j].f0 0 ((tiles.length : Int) - 1)
    · simp only [Bool.false_eq_true, if_false, Bool.false_and]
      exact Ev.step (f := fun _ => some false) (fun k => j1 k _ _) (Ev.now _)
    · obtain ⟨h1a, h1b⟩ := (inB_iff _ _ _).1 h1
      simp only [if_true, within_eq, Option.bind_some, Bool.true_and]
      cases h2 : inB l[j].f1 0 3
      · simp only [Bool.false_eq_true, if_false, Bool.false_and]
        exact Ev.step (f := fun _ => some false) (fun k => j1 k _ _) (Ev.now _)
      · obtain ⟨h2a, h2b⟩ := (inB_iff _ _ _).1 h2
        have hlt : l[j].f0.toNat < tiles.length := by omega
        have e0 : ((l[j].f0.toNat : Nat) : Int) = l[j].f0 := by omega
        have hu : rdOf false s.1 l[j].f0 = s.2.2.contains l[j].f0 := by
          have := i4 _ hlt
          rw [e0] at this
          exact this
        simp only [if_true, Bool.true_and, if_pos h1a, show l[j].f0 < (s.1.length : Int) from by omega, hu]
        cases h3 : s.2.2.contains l[j].f0
        · simp only [Bool.not_false, Bool.true_and]
          refine Ev.succ ?_
          simp only [impl_isCorrect.j1, Bool.false_eq_true, if_false, if_pos h1a, show l[j].f0 < (s.1.length : Int) from by omega, show l[j].f0 < (tiles.length : Int) from by omega, if_true]
          have ht : okT (turnT (tileAt tiles l[j].f0) l[j].f1) = true := turnT_ok _ _ (tileAt_ok tiles _ ho h1a (by omega))
          refine Ev.bind (turnTile_ev (rd_T24 tiles l[j].f0) l[j].f1 h2a h2b) ?_
          refine Ev.bind (fits_ev s.2.1 (turnT (tileAt tiles l[j].f0) l[j].f1) w h hw1 hw6 hh1 hh6 (by omega) i3 ht) ?_
          cases h4 : fitsV s.2.1 (turnT (tileAt tiles l[j].f0) l[j].f1) w h
          · simpa using Ev.now false
          · simp only [if_true, Bool.true_and, show s.2.1.length < 4398046511104 from by omega]
            have := ih (s.1.set l[j].f0.toNat true, s.2.1 ++ [turnT (tileAt tiles l[j].f0) l[j].f1], s.2.2 ++ [l[j].f0]) ⟨by simp [i1], by simp [i2], by simp [i3, ht], fun i hi => by
              simp only [List.getD_eq_getElem?_getD, List.getElem?_set, List.contains_append]
              by_cases e : l[j].f0.toNat = i
              · subst e
                simp [i1, hlt, e0]
              · rw [if_neg e, ← List.getD_eq_getElem?_getD, i4 i hi]
                have hne : ¬ ((i : Int) = l[j].f0) := by omega
                simp [hne]⟩
            rw [← wrap_succ j (by omega)] at this
            exact this
        · exact Ev.step (f := fun _ => some false) (fun k => j1 k _ _) (Ev.now _)
/-- Is it a correct layout of a jigsaw? -/
def layV (tiles : List Tl) (w h : Int) (l : List St) : Bool := decide (codeV tiles w h = 0) && (decide (l.length = tiles.length) && corr tiles w h [] [] l)
theorem specIsCorrect_ev (tiles : List Tl) (w h : Int) (l : List St) (hn : tiles.length ≤ 1048576) (hl : l.length ≤ 1048576) : Ev (fun k => spec_IsCorrectLayout.f k tiles w h l) (layV tiles w h l) := by
  unfold spec_IsCorrectLayout.f layV
  refine Ev.bind (l30Code_ev tiles w h hn) ?_
  by_cases c : codeV tiles w h = 0
  · simp only [c, if_true, decide_true, Bool.true_and]
    by_cases d : l.length = tiles.length
    · rw [show ((l.length : Int) != (tiles.length : Int)) = false from by simp [d]]
      simp only [d, decide_true, Bool.true_and]
      exact Ev.step (fun k => by simp only [spec_IsCorrectLayout.j0, Bool.false_eq_true, if_false]) (spec_corr_ev tiles w h l c hl)
    · rw [show ((l.length : Int) != (tiles.length : Int)) = true from by simp; omega]
      simp only [d, decide_false, Bool.false_and]
      exact Ev.step (f := fun _ => some false) (fun k => by simp [spec_IsCorrectLayout.j0]) (Ev.now _)
  · simp only [c, if_false, decide_false, Bool.false_and]
    exact Ev.step (f := fun _ => some false) (fun k => by simp [spec_IsCorrectLayout.j0]) (Ev.now _)
theorem isCorrect_ev (tiles : List Tl) (w h : Int) (l : List St) (c : codeV tiles w h = 0) (hl : l.length ≤ 1048576) : Ev (fun k => impl_isCorrect.f k tiles w h l) (decide (l.length = tiles.length) && corr tiles w h [] [] l) := by
  have hn := (codeV_zero c).2.2.2.2.2.2
  unfold impl_isCorrect.f
  by_cases d : l.length = tiles.length
  · simp only [d, if_true, decide_true, Bool.true_and, Int.toNat_natCast, show (0 : Int) ≤ (tiles.length : Int) from by omega, show tiles.length ≤ 281474976710656 from by omega]
    have := impl_corr_ev tiles w h l c hl
    rw [d] at this
    exact this
  · simp only [show ¬ ((l.length : Int) = (tiles.length : Int)) from by omega, if_false]
    simp only [d, decide_false, Bool.false_and]
    exact Ev.now _
end Go.Proofs.Ytgcagmmghckbbaa.A

/- Plain laws of what the laws do with lists of sets. -/
namespace Go.Proofs.Ytgcagmmghckbbaa.A
set_option linter.unusedSimpArgs false
set_option linter.unusedVariables false
open Go.RowKit Go.Proofs.YtgcagmmghckbbaaW.PrintWords Go.Proofs.YtgcagmmghckbbaaW.PrintLast Go.Proofs.YtgcagmmghckbbaaW.PrintMore
def toSt (x : S78) : St := ⟨x.f0, x.f1⟩
theorem toSetS_ev (l : List S78) (h : l.length ≤ 1048576) : Ev (fun k => laws_toSetS.f k l) (l.map toSt) := by
  unfold laws_toSetS.f
  simp only [Int.toNat_natCast, show (0 : Int) ≤ l.length from by omega, show l.length ≤ 17592186044416 from by omega, if_true]
  refine ev_at l.length (fun s j => s = (l.take j).map toSt ++ List.replicate (l.length - j) z74) (l.map toSt) (fun s i k => laws_toSetS.l0 k l s i) (fun s hi => ?_) (fun s j hj hi => ?_) _ (by simp)
  · refine Ev.step (f := fun _ => some s) (fun k => by simp only [laws_toSetS.l0]; rw [if_neg (by omega)]) ?_
    rw [hi]
    simpa using Ev.now _
  · have hl : s.length = l.length := by rw [hi]; simp; omega
    refine ⟨s.set j (toSt l[j]), by rw [hi]; exact set_fill toSt _ l j hj, fun h2 => Ev.step (fun k => ?_) h2⟩
    simp only [laws_toSetS.l0, laws_toSet.f, Option.bind_some]
    rw [if_pos (by omega), if_pos (by omega), if_pos (by omega), wrap_succ j (by omega)]
    simp only [rd_T78, getD_at l _ j hj, Int.toNat_natCast]
    rfl
theorem szSetS_in (l : List S78) (c : Int) (h0 : 0 ≤ c) (h1 : c ≤ 1048576) (h : l.length ≤ c) : laws_szSetS.f l c = some (c - (l.length : Int)) := by
  unfold laws_szSetS.f
  rw [show wrap64 (c - (l.length : Int)) = c - (l.length : Int) from by unfold wrap64; omega, if_neg (by omega)]
theorem szSetS_out (l : List S78) (c : Int) (h0 : 0 ≤ c) (h1 : c ≤ 1048576) (hm : l.length ≤ maxLen) (h : ¬ l.length ≤ c) : laws_szSetS.f l c = some (-1) := by
  unfold maxLen at hm
  unfold laws_szSetS.f
  rw [if_pos (by unfold wrap64; omega)]
theorem eqSetS_ev (l : List St) (h : l.length ≤ 1048576) : Ev (fun k => laws_eqSetS.f k l l) true := by
  unfold laws_eqSetS.f
  simp only [if_true]
  refine ev_at l.length (fun (_ : Unit) _ => True) true (fun _ i k => laws_eqSetS.l0 k l l i) (fun s hi => ?_) (fun s j hj hi => ?_) () trivial
  · exact Ev.step (f := fun _ => some true) (fun k => by simp only [laws_eqSetS.l0]; rw [if_neg (by omega)]) (Ev.now _)
  · refine ⟨(), trivial, fun h2 => Ev.step (fun k => ?_) h2⟩
    simp only [laws_eqSetS.l0, laws_eqSet.f, if_true, Option.bind_some]
    rw [if_pos (by omega), if_pos (by omega), if_pos (by omega), wrap_succ j (by omega)]
/-- Marks: what a list of sets holds behind the marking from c on. -/
def sets (c : Int) (n : Nat) : List St := (List.range n).map fun (i : Nat) => ⟨c + 2 * (i : Int), c + 2 * (i : Int) + 1⟩
theorem sets_len (c : Int) (n : Nat) : (sets c n).length = n := by simp [sets]
theorem sets_get (c : Int) (n j : Nat) (h : j < (sets c n).length) : (sets c n)[j] = ⟨c + 2 * (j : Int), c + 2 * (j : Int) + 1⟩ := by simp [sets]
theorem sets_succ (c : Int) (n : Nat) : sets c (n + 1) = sets c n ++ [⟨c + 2 * (n : Int), c + 2 * (n : Int) + 1⟩] := by simp [sets, List.range_succ]
theorem markSetS_ev (l : List St) (c : Int) (h : l.length ≤ 1048576) (h0 : 0 ≤ c) (h1 : c ≤ 8388608) : Ev (fun k => laws_markSetS.f k l c) (c + 2 * (l.length : Int), sets c l.length) := by
  unfold laws_markSetS.f
  refine ev_at l.length (fun (s : List St × Int) j => s.1.length = l.length ∧ s.2 = c + 2 * (j : Int) ∧ s.1.take j = sets c j) (c + 2 * (l.length : Int), sets c l.length) (fun s i k => laws_markSetS.l0 k s.1 s.2 i) (fun s hi => ?_) (fun s j hj hi => ?_) (l, c) ⟨rfl, by simp, by simp [sets]⟩
  · refine Ev.step (f := fun _ => some (s.2, s.1)) (fun k => by simp only [laws_markSetS.l0]; rw [if_neg (by omega)]) ?_
    have h3 := hi.2.2
    rw [List.take_of_length_le (by omega)] at h3
    rw [hi.2.1, h3]
    exact Ev.now _
  · have hj' : j < s.1.length := by omega
    refine ⟨(s.1.set j ⟨s.2, s.2 + 1⟩, s.2 + 2), ⟨by simp only [List.length_set]; exact hi.1, by simp only; omega, ?_⟩, fun h2 => Ev.step (fun k => ?_) h2⟩
    · have hl : j < (s.1.set j ⟨s.2, s.2 + 1⟩).length := by rw [List.length_set]; omega
      simp only
      rw [List.take_succ_eq_append_getElem hl, List.getElem_set_self, List.take_set_of_le (Nat.le_refl j), hi.2.2, hi.2.1, sets_succ]
    · have e1 : wrap64 (s.2 + 1) = s.2 + 1 := by have := hi.2.1; unfold wrap64; omega
      have e2 : wrap64 (s.2 + 1 + 1) = s.2 + 2 := by have := hi.2.1; unfold wrap64; omega
      simp only [laws_markSetS.l0, Int.toNat_natCast, Option.bind_some, e1, e2]
      rw [if_pos (by omega), if_pos (by omega), wrap_succ j (by omega)]
      simp [rd_T74, hj']
theorem heldSets_ev (n : Nat) (h : n ≤ 1048576) : Ev (fun k => laws_heldSetS.f k (sets 1 n) 1) (1 + 2 * (n : Int)) := by
  unfold laws_heldSetS.f
  refine ev_at n (fun (s : Int) j => s = 1 + 2 * (j : Int)) (1 + 2 * (n : Int)) (fun s i k => laws_heldSetS.l0 k (sets 1 n) s i) (fun s hi => ?_) (fun s j hj hi => ?_) 1 (by simp)
  · exact Ev.step (f := fun _ => some s) (fun k => by simp only [laws_heldSetS.l0]; rw [if_neg (by rw [sets_len]; omega)]) (by rw [hi]; exact Ev.now _)
  · refine ⟨s + 2, by omega, fun h2 => Ev.step (fun k => ?_) h2⟩
    have e1 : wrap64 (s + 1) = s + 1 := by unfold wrap64; omega
    have e2 : wrap64 (s + 1 + 1) = s + 2 := by unfold wrap64; omega
    have e3 : rd_T74 (sets 1 n) (j : Int) = ⟨1 + 2 * (j : Int), 1 + 2 * (j : Int) + 1⟩ := by rw [setAt_nat _ j (by rw [sets_len]; exact hj), sets_get]
    simp only [laws_heldSetS.l0, e1, e2, e3]
    rw [if_pos (by rw [sets_len]; omega), if_pos (by omega), if_pos (by omega), if_pos (by omega), wrap_succ j (by omega)]
def tIdx (w h : Int) (i : Nat) : Int := (i : Int) % w * h + h - 1 - (i : Int) / w
def turnS (s : St) : St := ⟨s.f0, (s.f1 + 1) % 4⟩
/-- The places from i on are filled. -/
def turnFrom (w h : Int) (l : List St) : List St → Nat → List St
  | out, 0 => out
  | out, n + 1 => turnFrom w h l (out.set (tIdx w h (l.length - (n + 1))).toNat (turnS (setAt l ((l.length - (n + 1) : Nat) : Int)))) n
theorem tIdx_bound (w h : Int) (n i : Nat) (hw : 1 ≤ w) (hw6 : w ≤ 6) (hh : 1 ≤ h) (hh6 : h ≤ 6) (hn : w * h = n) (hi : i < n) : 0 ≤ (i : Int) % w ∧ (i : Int) % w < w ∧ 0 ≤ (i : Int) / w ∧ (i : Int) / w < h ∧ 0 ≤ tIdx w h i ∧ tIdx w h i < n := by
  have c0 := Int.emod_nonneg (i : Int) (show w ≠ 0 by omega)
  have c1 := Int.emod_lt_of_pos (i : Int) (show 0 < w by omega)
  have r0 := Int.ediv_nonneg (show 0 ≤ (i : Int) by omega) (show 0 ≤ w by omega)
  have r1 : (i : Int) / w < h := Int.ediv_lt_of_lt_mul (by omega) (by rw [Int.mul_comm, hn]; omega)
  have m1 : (i : Int) % w * h ≤ (w - 1) * h := Int.mul_le_mul_of_nonneg_right (by omega) (by omega)
  have m0 : 0 ≤ (i : Int) % w * h := Int.mul_nonneg c0 (by omega)
  rw [Int.sub_mul, hn] at m1
  refine ⟨c0, c1, r0, r1, ?_, ?_⟩
  · unfold tIdx; omega
  · unfold tIdx; omega
theorem tIdx_walk (w h : Int) (n i : Nat) (hw : 1 ≤ w) (hw6 : w ≤ 6) (hh : 1 ≤ h) (hh6 : h ≤ 6) (hn : w * h = n) (hn12 : n ≤ 12) (hi : i < n) :
    wrap64 (wrap64 (wrap64 (wrap64 (Int.tmod i w * h) + h) - 1) - wrap64 (Int.tdiv i w)) = tIdx w h i := by
  obtain ⟨c0, c1, r0, r1, t0, t1⟩ := tIdx_bound w h n i hw hw6 hh hh6 hn hi
  have m0 : 0 ≤ (i : Int) % w * h := Int.mul_nonneg c0 (by omega)
  have m1 : (i : Int) % w * h ≤ 5 * 6 := Int.mul_le_mul (by omega) hh6 (by omega) (by omega)
  rw [Int.tmod_eq_emod_of_nonneg (by omega), Int.tdiv_eq_ediv_of_nonneg (by omega), wrap_id (x := (i : Int) % w * h) (by omega) (by omega), wrap_id (x := (i : Int) / w) (by omega) (by omega)]
  unfold tIdx at *
  rw [wrap_id (x := (i : Int) % w * h + h) (by omega) (by omega), wrap_id (x := (i : Int) % w * h + h - 1) (by omega) (by omega), wrap_id (by omega) (by omega)]
theorem turnFrom_step (w h : Int) (l out : List St) (j : Nat) (hj : j < l.length) : turnFrom w h l out (l.length - j) = turnFrom w h l (out.set (tIdx w h j).toNat (turnS (setAt l (j : Int)))) (l.length - (j + 1)) := by
  obtain ⟨m, hm⟩ : ∃ m, l.length - j = m + 1 := ⟨l.length - j - 1, by omega⟩
  rw [hm, show l.length - (j + 1) = m from by omega]
  show turnFrom w h l (out.set (tIdx w h (l.length - (m + 1))).toNat (turnS (setAt l ((l.length - (m + 1) : Nat) : Int)))) m = _
  rw [show l.length - (m + 1) = j from by omega]
/-- The codes of the turns of a correct layout are small: their successors do not wrap. -/
def smallTurns (l : List St) : Prop := ∀ j (h : j < l.length), 0 ≤ l[j].f1 ∧ l[j].f1 ≤ 3
theorem turnS_walk (s : St) (h : 0 ≤ s.f1 ∧ s.f1 ≤ 3) : (⟨s.f0, Int.tmod (wrap64 (s.f1 + 1)) 4⟩ : St) = turnS s := by
  unfold turnS
  rw [wrap_id (by omega) (by omega), Int.tmod_eq_emod_of_nonneg (by omega)]
theorem corr_turns (tiles : List Tl) (w h : Int) : ∀ (l : List St) (pl : List Tl) (seen : List Int), corr tiles w h pl seen l = true → smallTurns l
  | [], _, _, _ => fun j h => by simp at h
  | s :: r, pl, seen, hc => by
    unfold corr at hc
    simp only [Bool.and_eq_true, inB_iff] at hc
    intro j hj
    cases j with
    | zero => exact hc.2.1
    | succ j => exact corr_turns tiles w h r _ _ hc.2.2.2.2 j (by simpa using hj)
theorem specTurn_ev (w h : Int) (l : List St) (hw : 1 ≤ w) (hw6 : w ≤ 6) (hh : 1 ≤ h) (hh6 : h ≤ 6) (hn : w * h = l.length) (hn12 : l.length ≤ 12) (ht : smallTurns l) (out : List St) (ho : out.length = l.length) :
    Ev (fun k => spec_TurnLayout.l0 k w h l out 0) (turnFrom w h l out l.length, 0) := by
  have := ev_inv0 l.length (fun (s : List St) j => s.length = l.length ∧ turnFrom w h l out l.length = turnFrom w h l s (l.length - j)) (fun r => r = (turnFrom w h l out l.length, 0)) (fun s i k => spec_TurnLayout.l0 k w h l s i) (fun s hi => ?_) (fun s j hj hi => .inr ?_) out ⟨ho, by simp⟩
  · obtain ⟨r, rfl, hr⟩ := this
    exact hr
  · rw [Nat.sub_self] at hi
    refine ⟨_, rfl, Ev.step (f := fun _ => some (s, 0)) (fun k => by simp only [spec_TurnLayout.l0]; rw [if_neg (by omega)]) ?_⟩
    rw [hi.2]
    exact Ev.now _
  · obtain ⟨_, _, _, _, t0, t1⟩ := tIdx_bound w h l.length j hw hw6 hh hh6 hn hj
    refine ⟨s.set (tIdx w h j).toNat (turnS (setAt l (j : Int))), ⟨by simp [hi.1], by rw [hi.2, turnFrom_step w h l s j hj]⟩, fun r h2 => Ev.step (fun k => ?_) h2⟩
    simp only [spec_TurnLayout.l0, tIdx_walk w h l.length j hw hw6 hh hh6 hn hn12 hj]
    rw [if_pos (by omega), if_neg (by omega), if_pos (by omega), if_pos t0, if_pos (by omega), wrap_succ j (by omega), turnS_walk]
    · rfl
    · rw [setAt_nat l j hj]; exact ht j hj
theorem implTurn_ev (w h : Int) (l : List St) (hw : 1 ≤ w) (hw6 : w ≤ 6) (hh : 1 ≤ h) (hh6 : h ≤ 6) (hn : w * h = l.length) (hn12 : l.length ≤ 12) (ht : smallTurns l) (out : List St) (ho : out.length = l.length) :
    Ev (fun k => impl_TurnLayout.l0 k w h out l l.length 0) (turnFrom w h l out l.length, 0) := by
  have := ev_inv0 l.length (fun (s : List St) j => s.length = l.length ∧ turnFrom w h l out l.length = turnFrom w h l s (l.length - j)) (fun r => r = (turnFrom w h l out l.length, 0)) (fun s i k => impl_TurnLayout.l0 k w h s l l.length i) (fun s hi => ?_) (fun s j hj hi => .inr ?_) out ⟨ho, by simp⟩
  · obtain ⟨r, rfl, hr⟩ := this
    exact hr
  · rw [Nat.sub_self] at hi
    refine ⟨_, rfl, Ev.step (f := fun _ => some (s, 0)) (fun k => by simp only [impl_TurnLayout.l0]; rw [if_neg (by omega)]) ?_⟩
    rw [hi.2]
    exact Ev.now _
  · obtain ⟨_, _, _, _, t0, t1⟩ := tIdx_bound w h l.length j hw hw6 hh hh6 hn hj
    refine ⟨s.set (tIdx w h j).toNat (turnS (setAt l (j : Int))), ⟨by simp [hi.1], by rw [hi.2, turnFrom_step w h l s j hj]⟩, fun r h2 => Ev.step (fun k => ?_) h2⟩
    simp only [impl_TurnLayout.l0, tIdx_walk w h l.length j hw hw6 hh hh6 hn hn12 hj]
    rw [if_pos (by omega), if_pos (by omega), if_pos (by omega), if_neg (by omega), if_pos t0, if_pos (by omega), wrap_succ j (by omega), turnS_walk]
    · rfl
    · rw [setAt_nat l j hj]; exact ht j hj
def turnOut (tiles : List Tl) (w h : Int) (l : List St) : List St × Int :=
  if codeV tiles w h = 0 then if layV tiles w h l = true then (turnFrom w h l (List.replicate l.length z74) l.length, 0) else ([], 5) else ([], codeV tiles w h)
theorem layV_true {tiles : List Tl} {w h : Int} {l : List St} (hv : layV tiles w h l = true) : codeV tiles w h = 0 ∧ l.length = tiles.length ∧ corr tiles w h [] [] l = true := by
  unfold layV at hv
  simpa using hv
theorem specTurnLayout_ev (tiles : List Tl) (w h : Int) (l : List St) (hn : tiles.length ≤ 1048576) (hl : l.length ≤ 1048576) : Ev (fun k => spec_TurnLayout.f k tiles w h l) (turnOut tiles w h l) := by
  unfold spec_TurnLayout.f turnOut
  refine Ev.bind (l30Code_ev tiles w h hn) ?_
  by_cases c : codeV tiles w h = 0
  · simp only [c, if_true]
    refine Ev.bind (specIsCorrect_ev tiles w h l hn hl) (Ev.succ ?_)
    cases hv : layV tiles w h l
    · simp only [spec_TurnLayout.j0, Bool.not_false, if_true]
      exact Ev.step (f := fun _ => some ([], 5)) (fun k => by simp [spec_TurnLayout.j1]) (Ev.now _)
    · obtain ⟨_, e, hc⟩ := layV_true hv
      obtain ⟨ho, hw1, hw6, hh1, hh6, hwh, hn12⟩ := codeV_zero c
      simp only [spec_TurnLayout.j0, Bool.not_true, Bool.false_eq_true, if_false, if_true]
      refine Ev.succ ?_
      simp only [spec_TurnLayout.j1, if_true, Int.toNat_natCast, show (0 : Int) ≤ (l.length : Int) from by omega, show l.length ≤ 17592186044416 from by omega]
      exact specTurn_ev w h l hw1 hw6 hh1 hh6 (by rw [hwh, e]) (by omega) (corr_turns _ _ _ _ _ _ hc) _ (by simp)
  · simp only [c, if_false]
    refine Ev.succ ?_
    simp only [spec_TurnLayout.j0, Bool.false_eq_true, if_false]
    refine Ev.succ ?_
    simp only [spec_TurnLayout.j1, c, if_false]
    exact Ev.now _
theorem implTurnLayout_ev (tiles : List Tl) (w h : Int) (l : List St) (hl : l.length ≤ 1048576) : Ev (fun k => impl_TurnLayout.f k tiles w h l) (turnOut tiles w h l) := by
  unfold impl_TurnLayout.f turnOut
  refine Ev.bind (jigsawCode_ev tiles w h) ?_
  by_cases c : codeV tiles w h = 0
  · simp only [c, if_true]
    refine Ev.bind (isCorrect_ev tiles w h l c hl) ?_
    have e : layV tiles w h l = (decide (l.length = tiles.length) && corr tiles w h [] [] l) := by unfold layV; simp [c]
    rw [← e]
    cases hv : layV tiles w h l
    · exact Ev.now _
    · obtain ⟨_, e, hc⟩ := layV_true hv
      obtain ⟨ho, hw1, hw6, hh1, hh6, hwh, hn12⟩ := codeV_zero c
      simp only [if_true, Int.toNat_natCast, show (0 : Int) ≤ (l.length : Int) from by omega, show l.length ≤ 17592186044416 from by omega]
      exact implTurn_ev w h l hw1 hw6 hh1 hh6 (by rw [hwh, e]) (by omega) (corr_turns _ _ _ _ _ _ hc) _ (by simp)
  · simp only [c, if_false]
    exact Ev.now _
theorem turnFrom_len (w h : Int) (l : List St) : ∀ (n : Nat) (out : List St), (turnFrom w h l out n).length = out.length
  | 0, _ => rfl
  | n + 1, out => by
    show (turnFrom w h l _ n).length = _
    rw [turnFrom_len w h l n]
    simp
theorem turnOut_len (tiles : List Tl) (w h : Int) (l : List St) (hl : l.length ≤ 1048576) : (turnOut tiles w h l).1.length ≤ 1048576 := by
  unfold turnOut
  split
  · split
    · simp only [turnFrom_len]; simpa using hl
    · simp
  · simp
end Go.Proofs.Ytgcagmmghckbbaa.A

/- TurnLayout: the program turns a layout as the reference turns it; what it hands back is its own. -/
namespace Go.Proofs.Ytgcagmmghckbbaa.Pure
open Go.RowKit Go.Proofs.YtgcagmmghckbbaaW.PrintWords Go.Proofs.YtgcagmmghckbbaaW.PrintLast Go.Proofs.YtgcagmmghckbbaaW.PrintMore Go.Proofs.Ytgcagmmghckbbaa.A
theorem FnExactTurnLayout : Go.Proofs.Ytgcagmmghckbbaa.A.FnExactTurnLayout.Pure := by
  intro l w h s hl hw hh hs
  apply Ev.rounds
  unfold laws_FnExactTurnLayout.f
  by_cases c : l.length ≤ 1048576
  · refine Ev.bindc (szTileS_in l c) ?_
    simp only [show ¬ ((1048576 - (l.length : Int)) < 0) from by omega, if_false]
    by_cases d : s.length ≤ 1048576 - (l.length : Int)
    · refine Ev.bindc (szSetS_in s _ (by omega) (by omega) d) ?_
      simp only [show ¬ ((1048576 - (l.length : Int) - (s.length : Int)) < 0) from by omega, if_false]
      have hc : (l.map toTl).length ≤ 1048576 := by simpa using c
      have hd : s.length ≤ 1048576 := by omega
      have hd' : (s.map toSt).length ≤ 1048576 := by simpa using hd
      have hf := turnOut_len (l.map toTl) w h (s.map toSt) hd'
      obtain ⟨r, hr0, hr⟩ := markTileS_ev (l.map toTl) hc
      have hq : 0 ≤ r.1 + 2 * ((s.map toSt).length : Int) := by omega
      refine Ev.bind (toTileS_ev l c) (Ev.bind (toSetS_ev s hd) (Ev.bind (specTurnLayout_ev _ w h _ hc hd') (Ev.bind (toTileS_ev l c) (Ev.bind (toSetS_ev s hd) (Ev.bind (implTurnLayout_ev _ w h _ hd') (Ev.bind (eqSetS_ev _ hf) ?_))))))
      simp only [if_true, bne_self_eq_false]
      refine Ev.succ ?_
      simp only [laws_FnExactTurnLayout.j0, Bool.false_eq_true, if_false]
      refine Ev.bind (toTileS_ev l c) (Ev.bind (eqTileS_ev _ hc) ?_)
      simp only [if_true]
      refine Ev.bind (toSetS_ev s hd) (Ev.bind (eqSetS_ev _ hd') ?_)
      simp only [if_true]
      refine Ev.bind hr (Ev.bind (markSetS_ev _ r.1 hd' (by omega) (by omega)) ?_)
      simp only [show ¬ (r.1 + 2 * ((s.map toSt).length : Int) < 0) from by omega, if_false]
      refine Ev.bind (eqSetS_ev _ hf) ?_
      simp only [if_true, bne_self_eq_false]
      refine Ev.succ ?_
      simp only [laws_FnExactTurnLayout.j1, Bool.false_eq_true, if_false]
      refine Ev.bind (markSetS_ev _ 1 hf (by omega) (by omega)) (Ev.bind (heldSets_ev _ hf) ?_)
      simp only [if_true, show ¬ ((1 + 2 * ((turnOut (l.map toTl) w h (s.map toSt)).1.length : Int)) < 0) from by omega, if_false]
      refine Ev.bind (toTileS_ev l c) (Ev.bind (toSetS_ev s hd) (Ev.bind (implTurnLayout_ev _ w h _ hd') (Ev.bind (eqSetS_ev _ hf) ?_)))
      simp only [if_true, bne_self_eq_false]
      refine Ev.succ ?_
      simp only [laws_FnExactTurnLayout.j2, Bool.false_eq_true, if_false]
      refine Ev.bind (heldSets_ev _ hf) (Ev.val fun k => ?_)
      simp only [if_true, show ¬ ((1 + 2 * ((turnOut (l.map toTl) w h (s.map toSt)).1.length : Int)) < 0) from by omega, if_false]
    · exact Ev.bindc (szSetS_out s _ (by omega) (by omega) hs.1 d) (Ev.val fun k => by simp)
  · exact Ev.bindc (szTileS_out l hl.1 c) (Ev.val fun k => by simp)
end Go.Proofs.Ytgcagmmghckbbaa.Pure

