/- What the row of the law FnExactFlatEdges stands on, part 2. -/
import Derived.Test.YtgcagmmghckbbaaMFnExactFlatEdges1
-- Printed by a program of this session (wip/tools/pp.py) over the kit's printer.
namespace Go.Proofs.Ytgcagmmghckbbaa.A
open Go.RowKit Go.Proofs.YtgcagmmghckbbaaW.PrintWords Go.Proofs.YtgcagmmghckbbaaW.PrintLast Go.Proofs.YtgcagmmghckbbaaW.PrintMore
attribute [local go_sem] max2_int min2_int max_two min_two max_three min_three max_four min_four   -- for this text's walks alone
set_option linter.unusedVariables false
set_option linter.unusedSimpArgs false

/-! ### laws_FnExactFlatEdges: function 5 -/
mutual
def laws_FnExactFlatEdges.j0 : Nat → List (S23) → List Int → Int → List (S24) → List Int → Int → Bool → Option (Bool)
  | 0, _, _, _, _, _, _, _ => none
  | k + 1, x0, x4, x5, x6, x7, x8, x40 => if x40 = true then (some false) else ((laws_toTileS.f k x0).bind fun t263 => ((laws_eqTileS.f k x6 t263).bind fun t266 => (if t266 = true then ((laws_markTileS.f k x6 1).bind fun bt267 => (if bt267.1 < 0 then (laws_FnExactFlatEdges.j1 k x0 x4 x5 x7 true) else ((laws_eqInt64S.f k x7 x4).bind fun t269 => (if t269 = true then (laws_FnExactFlatEdges.j1 k x0 x4 x5 x7 (x8 != x5)) else (laws_FnExactFlatEdges.j1 k x0 x4 x5 x7 true))))) else (some false))))
def laws_FnExactFlatEdges.j1 : Nat → List (S23) → List Int → Int → List Int → Bool → Option (Bool)
  | 0, _, _, _, _, _ => none
  | k + 1, x0, x4, x5, x7, x61 => if x61 = true then (some false) else ((laws_markInt64S.f k x7 1).bind fun bt270 => ((laws_heldInt64S.f k bt270.2 1).bind fun t272 => (if t272 < 0 then (some false) else (if t272 = bt270.1 then ((laws_toTileS.f k x0).bind fun t273 => ((impl_FlatEdges.f k t273).bind fun bt276 => ((laws_eqInt64S.f k bt276.1 x4).bind fun t280 => (if t280 = true then (laws_FnExactFlatEdges.j2 k bt270.2 bt270.1 (bt276.2 != x5)) else (laws_FnExactFlatEdges.j2 k bt270.2 bt270.1 true))))) else (some false)))))
def laws_FnExactFlatEdges.j2 : Nat → List Int → Int → Bool → Option (Bool)
  | 0, _, _, _ => none
  | k + 1, x7, x10, x87 => if x87 = true then (some false) else ((laws_heldInt64S.f k x7 1).bind fun t281 => (if t281 < 0 then (some false) else (if t281 = x10 then (some true) else (some false))))
end
def laws_FnExactFlatEdges.f (k : Nat) (l0 : List (S23)) : Option (Bool) := (laws_szTileS.f l0 1048576).bind fun t247 => (if t247 < 0 then (some true) else ((laws_toTileS.f k l0).bind fun t248 => ((spec_FlatEdges.f k t248).bind fun bt251 => ((laws_toTileS.f k l0).bind fun t255 => ((impl_FlatEdges.f k t255).bind fun bt258 => ((laws_eqInt64S.f k bt258.1 bt251.1).bind fun t262 => (if t262 = true then (laws_FnExactFlatEdges.j0 k l0 bt251.1 bt251.2 t255 bt258.1 bt258.2 (bt258.2 != bt251.2)) else (laws_FnExactFlatEdges.j0 k l0 bt251.1 bt251.2 t255 bt258.1 bt258.2 true))))))))
set_option maxHeartbeats 8000000 in
set_option maxRecDepth 100000 in
theorem laws_FnExactFlatEdges.calls (k : Nat) (A0 : Option Addr) (c0 : Nat) (l0 : List (S23)) (r : Bool) (w : World) (hr0 : Kd.C k23 w A0 l0.length l0) (hc0 : l0.length ≤ c0) (h : laws_FnExactFlatEdges.f k l0 = some r) :
    Calls Try.prog 5 #[.slice A0 l0.length c0] w fun e w' => e = .returned (.bool r) ∧ Below w.heap.size w w' := by
  have HR0 := Aside0.mk hr0
  have HC0 := Aside0.mk hc0
  clear hr0 hc0
  have HB := Aside0.mk (Below.refl w.heap.size w)
  have H : ((laws_szTileS.f l0 1048576).bind fun t247 => (if t247 < 0 then (some true) else ((laws_toTileS.f k l0).bind fun t248 => ((spec_FlatEdges.f k t248).bind fun bt251 => ((laws_toTileS.f k l0).bind fun t255 => ((impl_FlatEdges.f k t255).bind fun bt258 => ((laws_eqInt64S.f k bt258.1 bt251.1).bind fun t262 => (if t262 = true then (laws_FnExactFlatEdges.j0 k l0 bt251.1 bt251.2 t255 bt258.1 bt258.2 (bt258.2 != bt251.2)) else (laws_FnExactFlatEdges.j0 k l0 bt251.1 bt251.2 t255 bt258.1 bt258.2 true))))))))) = some r := h
  clear h
  replace H := Option.bind_eq_some_iff.mp H
  obtain ⟨t247, A20, H⟩ := H
  replace H : (if t247 < 0 then (some true) else ((laws_toTileS.f k l0).bind fun t248 => ((spec_FlatEdges.f k t248).bind fun bt251 => ((laws_toTileS.f k l0).bind fun t255 => ((impl_FlatEdges.f k t255).bind fun bt258 => ((laws_eqInt64S.f k bt258.1 bt251.1).bind fun t262 => (if t262 = true then (laws_FnExactFlatEdges.j0 k l0 bt251.1 bt251.2 t255 bt258.1 bt258.2 (bt258.2 != bt251.2)) else (laws_FnExactFlatEdges.j0 k l0 bt251.1 bt251.2 t255 bt258.1 bt258.2 true)))))))) = some r := H
  have A2 := Aside0.mk A20
  clear A20
  have H0_ := Aside0.mk H
  clear H
  go_enter Try.func5, Try.ntmps5
  go_wp2_with (first | ((with_reducible refine gate_callee (f := 17) rfl ?_); refine goesL_ (some 16) rfl rfl Try.func17 (by kernel_rfl) rfl #[.slice A0 l0.length c0, .int .i64 1048576] rfl (by (try simp only [List.map_toArray, List.map_cons, List.map_nil]); first | done | rfl | (simp only [List.length_drop, List.length_take]; rfl)) ?_; (with_reducible refine (laws_szTileS.calls _ _ l0 1048576 t247 _ ?side1 ?side2 A2.out).mono ?_); (case side1 => repeat (first | exact HR0.out | (with_reducible refine Kd.C_alloc ?_ _) | (with_reducible refine Kd.C_drewN ?_ _) | (with_reducible refine Kd.C_drew ?_))); (case side2 => exact HC0.out); rintro e w' ⟨rfl, ⟨nd, rfl⟩⟩; refine ⟨_, rfl, ?_⟩; refine Stop0.out ?_))
  refine Stop0.mk ?_
  have H := H0_.out
  clear H0_
  by_cases c3 : t247 < 0
  · rw [if_pos c3] at H
    have c3b0 : decide (t247 < 0) = true := decide_eq_true c3
    clear c3
    obtain rfl := Option.some.inj H
    go_wp2
    go_ret
    exact ⟨by first | rfl | (simp [errW_none, errW_some] <;> rfl) | (simp [*, errW_none, errW_some] <;> rfl), by repeat (first | (with_reducible first | exact HB.out | apply below_alloc | apply pw_below_drewN | apply below_drew1) | exact HB.out)⟩
  · rw [if_neg c3] at H
    have c3b0 : decide (t247 < 0) = false := decide_eq_false c3
    clear c3
    replace H := Option.bind_eq_some_iff.mp H
    obtain ⟨t248, A40, H⟩ := H
    replace H : ((spec_FlatEdges.f k t248).bind fun bt251 => ((laws_toTileS.f k l0).bind fun t255 => ((impl_FlatEdges.f k t255).bind fun bt258 => ((laws_eqInt64S.f k bt258.1 bt251.1).bind fun t262 => (if t262 = true then (laws_FnExactFlatEdges.j0 k l0 bt251.1 bt251.2 t255 bt258.1 bt258.2 (bt258.2 != bt251.2)) else (laws_FnExactFlatEdges.j0 k l0 bt251.1 bt251.2 t255 bt258.1 bt258.2 true)))))) = some r := H
    have A4 := Aside0.mk A40
    clear A40
    have H0_ := Aside0.mk H
    clear H
    go_wp2_with (first | ((with_reducible refine gate_callee (f := 19) rfl ?_); refine goesL_ (some 21) rfl rfl Try.func19 (by kernel_rfl) rfl #[.slice A0 l0.length c0] rfl (by (try simp only [List.map_toArray, List.map_cons, List.map_nil]); first | done | rfl | (simp only [List.length_drop, List.length_take]; rfl)) ?_; (with_reducible refine (laws_toTileS.calls k _ _ l0 t248 _ ?side1 ?side2 A4.out).mono ?_); (case side1 => repeat (first | exact (Kd.C_below HR0.out HB.out) | (with_reducible refine Kd.C_alloc ?_ _) | (with_reducible refine Kd.C_drewN ?_ _) | (with_reducible refine Kd.C_drew ?_))); (case side2 => exact HC0.out); rintro e w5 ⟨v249, rfl, ho0, hb⟩; refine ⟨_, rfl, ?_⟩; have n0_ := Aside0.mk (Kd.R_lower ho0 (below_size (by repeat (first | (with_reducible first | exact HB.out | apply below_alloc | apply pw_below_drewN | apply below_drew1) | exact HB.out)))); have n1_ := Aside0.mk (below_step (by repeat (first | (with_reducible first | exact HB.out | apply below_alloc | apply pw_below_drewN | apply below_drew1) | exact HB.out)) hb); clear HB; have HO250 := n0_; have HB := n1_; clear n0_ n1_; (try clear hb); (try clear hb2); (try clear hk); (try clear hi); (try clear ho0); refine Stop0.out ?_))
    refine Stop0.mk ?_
    have H := H0_.out
    clear H0_
    replace H := Option.bind_eq_some_iff.mp H
    obtain ⟨⟨t251, t252⟩, A60, H⟩ := H
    replace H : ((laws_toTileS.f k l0).bind fun t255 => ((impl_FlatEdges.f k t255).bind fun bt258 => ((laws_eqInt64S.f k bt258.1 t251).bind fun t262 => (if t262 = true then (laws_FnExactFlatEdges.j0 k l0 t251 t252 t255 bt258.1 bt258.2 (bt258.2 != t252)) else (laws_FnExactFlatEdges.j0 k l0 t251 t252 t255 bt258.1 bt258.2 true))))) = some r := H
    have A6 := Aside0.mk A60
    clear A60
    have H0_ := Aside0.mk H
    clear H
    obtain ⟨Ao7, co7, eo7⟩ := Kd.R_slice HO250.out
    subst eo7
    go_wp2_with (first | ((with_reducible refine gate_callee (f := 22) rfl ?_); refine goesL_ (some 22) rfl rfl Try.func22 (by kernel_rfl) rfl #[.slice Ao7 t248.length co7] rfl (by (try simp only [List.map_toArray, List.map_cons, List.map_nil]); first | done | rfl | (simp only [List.length_drop, List.length_take]; rfl)) ?_; (with_reducible refine (spec_FlatEdges.calls k _ _ t248 t251 t252 _ ?side1 ?side2 A6.out).mono ?_); (case side1 => repeat (first | exact (Kd.R_reads' HO250.out).2.2 | (with_reducible refine Kd.C_alloc ?_ _) | (with_reducible refine Kd.C_drewN ?_ _) | (with_reducible refine Kd.C_drew ?_))); (case side2 => exact (Kd.R_reads' HO250.out).2.1); rintro e w8 ⟨v253, rfl, ho0, hb⟩; refine ⟨_, rfl, ?_⟩; have n0_ := Aside0.mk (Kd.R_below (by (with_reducible repeat (first | apply Kd.R_alloc | apply Kd.R_drewN | apply Kd.R_drew)); exact HO250.out) hb); have n1_ := Aside0.mk (Kd.R_lower ho0 (below_size (by repeat (first | (with_reducible first | exact HB.out | apply below_alloc | apply pw_below_drewN | apply below_drew1) | exact HB.out)))); have n2_ := Aside0.mk (below_step (by repeat (first | (with_reducible first | exact HB.out | apply below_alloc | apply pw_below_drewN | apply below_drew1) | exact HB.out)) hb); clear HO250; clear HB; have HO250 := n0_; have HO254 := n1_; have HB := n2_; clear n0_ n1_ n2_; (try clear hb); (try clear hb2); (try clear hk); (try clear hi); (try clear ho0); refine Stop0.out ?_))
    refine Stop0.mk ?_
    have H := H0_.out
    clear H0_
    replace H := Option.bind_eq_some_iff.mp H
    obtain ⟨t255, A90, H⟩ := H
    replace H : ((impl_FlatEdges.f k t255).bind fun bt258 => ((laws_eqInt64S.f k bt258.1 t251).bind fun t262 => (if t262 = true then (laws_FnExactFlatEdges.j0 k l0 t251 t252 t255 bt258.1 bt258.2 (bt258.2 != t252)) else (laws_FnExactFlatEdges.j0 k l0 t251 t252 t255 bt258.1 bt258.2 true)))) = some r := H
    have A9 := Aside0.mk A90
    clear A90
    have H0_ := Aside0.mk H
    clear H
    go_wp2_with (first | ((with_reducible refine gate_callee (f := 19) rfl ?_); refine goesL_ (some 26) rfl rfl Try.func19 (by kernel_rfl) rfl #[.slice A0 l0.length c0] rfl (by (try simp only [List.map_toArray, List.map_cons, List.map_nil]); first | done | rfl | (simp only [List.length_drop, List.length_take]; rfl)) ?_; (with_reducible refine (laws_toTileS.calls k _ _ l0 t255 _ ?side1 ?side2 A9.out).mono ?_); (case side1 => repeat (first | exact (Kd.C_below HR0.out HB.out) | (with_reducible refine Kd.C_alloc ?_ _) | (with_reducible refine Kd.C_drewN ?_ _) | (with_reducible refine Kd.C_drew ?_))); (case side2 => exact HC0.out); rintro e w10 ⟨v256, rfl, ho0, hb⟩; refine ⟨_, rfl, ?_⟩; have n0_ := Aside0.mk (Kd.R_elder' (by (with_reducible repeat (first | apply Kd.R_alloc | apply Kd.R_drewN | apply Kd.R_drew)); exact HO250.out) (Kd.R_base ho0) hb); have n1_ := Aside0.mk (Kd.R_below (by (with_reducible repeat (first | apply Kd.R_alloc | apply Kd.R_drewN | apply Kd.R_drew)); exact HO254.out) hb); have n2_ := Aside0.mk (Kd.R_lower (Kd.R_new' ho0 (Kd.R_lt (by (with_reducible repeat (first | apply Kd.R_alloc | apply Kd.R_drewN | apply Kd.R_drew)); exact HO250.out))) (below_size (by repeat (first | (with_reducible first | exact HB.out | apply below_alloc | apply pw_below_drewN | apply below_drew1) | exact HB.out)))); have n3_ := Aside0.mk (below_step (by repeat (first | (with_reducible first | exact HB.out | apply below_alloc | apply pw_below_drewN | apply below_drew1) | exact HB.out)) hb); clear HO250; clear HO254; clear HB; have HO250 := n0_; have HO254 := n1_; have HO257 := n2_; have HB := n3_; clear n0_ n1_ n2_ n3_; (try clear hb); (try clear hb2); (try clear hk); (try clear hi); (try clear ho0); refine Stop0.out ?_))
    refine Stop0.mk ?_
    have H := H0_.out
    clear H0_
    replace H := Option.bind_eq_some_iff.mp H
    obtain ⟨⟨t258, t259⟩, A110, H⟩ := H
    replace H : ((laws_eqInt64S.f k t258 t251).bind fun t262 => (if t262 = true then (laws_FnExactFlatEdges.j0 k l0 t251 t252 t255 t258 t259 (t259 != t252)) else (laws_FnExactFlatEdges.j0 k l0 t251 t252 t255 t258 t259 true))) = some r := H
    have A11 := Aside0.mk A110
    clear A110
    have H0_ := Aside0.mk H
    clear H
    obtain ⟨Ao12, co12, eo12⟩ := Kd.R_slice HO257.out
    subst eo12
    go_wp2_with (first | ((with_reducible refine gate_callee (f := 23) rfl ?_); refine goesL_ (some 29) rfl rfl Try.func23 (by kernel_rfl) rfl #[.slice Ao12 t255.length co12] rfl (by (try simp only [List.map_toArray, List.map_cons, List.map_nil]); first | done | rfl | (simp only [List.length_drop, List.length_take]; rfl)) ?_; (with_reducible refine (impl_FlatEdges.calls k _ _ t255 t258 t259 _ ?side1 ?side2 A11.out).mono ?_); (case side1 => repeat (first | exact (Kd.R_reads' HO257.out).2.2 | (with_reducible refine Kd.C_alloc ?_ _) | (with_reducible refine Kd.C_drewN ?_ _) | (with_reducible refine Kd.C_drew ?_))); (case side2 => exact (Kd.R_reads' HO257.out).2.1); rintro e w13 ⟨v260, rfl, ho0, hb⟩; refine ⟨_, rfl, ?_⟩; have n0_ := Aside0.mk (Kd.R_below (by (with_reducible repeat (first | apply Kd.R_alloc | apply Kd.R_drewN | apply Kd.R_drew)); exact HO250.out) hb); have n1_ := Aside0.mk (Kd.R_elder' (by (with_reducible repeat (first | apply Kd.R_alloc | apply Kd.R_drewN | apply Kd.R_drew)); exact HO254.out) (Kd.R_base ho0) hb); have n2_ := Aside0.mk (Kd.R_below (by (with_reducible repeat (first | apply Kd.R_alloc | apply Kd.R_drewN | apply Kd.R_drew)); exact HO257.out) hb); have n3_ := Aside0.mk (Kd.R_lower (Kd.R_new' ho0 (Kd.R_lt (by (with_reducible repeat (first | apply Kd.R_alloc | apply Kd.R_drewN | apply Kd.R_drew)); exact HO254.out))) (below_size (by repeat (first | (with_reducible first | exact HB.out | apply below_alloc | apply pw_below_drewN | apply below_drew1) | exact HB.out)))); have n4_ := Aside0.mk (below_step (by repeat (first | (with_reducible first | exact HB.out | apply below_alloc | apply pw_below_drewN | apply below_drew1) | exact HB.out)) hb); clear HO250; clear HO254; clear HO257; clear HB; have HO250 := n0_; have HO254 := n1_; have HO257 := n2_; have HO261 := n3_; have HB := n4_; clear n0_ n1_ n2_ n3_ n4_; (try clear hb); (try clear hb2); (try clear hk); (try clear hi); (try clear ho0); refine Stop0.out ?_))
    refine Stop0.mk ?_
    have H := H0_.out
    clear H0_
    have HC14 := Aside0.mk H
    clear H
    go_upto_region 8 with (fail)
    go_cut [40] (fun v40 wc => ∃ (kq : Nat) (x40_13 : Bool), v40 = .bool x40_13 ∧ Aside0 (laws_FnExactFlatEdges.j0 kq l0 t251 t252 t255 t258 t259 x40_13 = some r) ∧ Aside0 (kq ≤ k) ∧ Aside0 (Kd.R (Kd.int .i64) 2 wc w.heap.size (fun k_ => some k_ ≠ (v260 : Value).ownBlock) v253 t251) ∧ Aside0 (Kd.R k24 24 wc w.heap.size (fun _ => True) (.slice Ao12 t255.length co12) t255) ∧ Aside0 (Kd.R (Kd.int .i64) 2 wc w.heap.size (fun k_ => some k_ ≠ (v253 : Value).ownBlock) v260 t258) ∧ Aside0 (Below w.heap.size w wc))
    case first =>
      have H := HC14.out
      clear HC14
      replace H := Option.bind_eq_some_iff.mp H
      obtain ⟨t262, A150, H⟩ := H
      replace H : (if t262 = true then (laws_FnExactFlatEdges.j0 k l0 t251 t252 t255 t258 t259 (t259 != t252)) else (laws_FnExactFlatEdges.j0 k l0 t251 t252 t255 t258 t259 true)) = some r := H
      have A15 := Aside0.mk A150
      clear A150
      by_cases c16 : t262 = true
      · subst c16
        have H1 : (laws_FnExactFlatEdges.j0 k l0 t251 t252 t255 t258 t259 (t259 != t252)) = some r := by rw [if_pos rfl] at H; exact H
        clear H
        have H := H1
        clear H1
        have H' := Aside0.mk H
        clear H
        obtain ⟨Ao17, co17, eo17⟩ := Kd.R_slice HO261.out
        subst eo17
        obtain ⟨Ao18, co18, eo18⟩ := Kd.R_slice HO254.out
        subst eo18
        go_wp2_with (first | ((with_reducible refine gate_callee (f := 24) rfl ?_); refine goesL_ (some 34) rfl rfl Try.func24 (by kernel_rfl) rfl #[.slice Ao17 t258.length co17, .slice Ao18 t251.length co18] rfl (by (try simp only [List.map_toArray, List.map_cons, List.map_nil]); first | done | rfl | (simp only [List.length_drop, List.length_take]; rfl)) ?_; (with_reducible refine (laws_eqInt64S.calls k _ _ t258 _ _ t251 true _ ?side1 ?side2 ?side3 ?side4 A15.out).mono ?_); (case side1 => repeat (first | exact (Kd.R_reads' HO261.out).2.2 | (with_reducible refine Kd.C_alloc ?_ _) | (with_reducible refine Kd.C_drewN ?_ _) | (with_reducible refine Kd.C_drew ?_))); (case side2 => exact (Kd.R_reads' HO261.out).2.1); (case side3 => repeat (first | exact (Kd.R_reads' HO254.out).2.2 | (with_reducible refine Kd.C_alloc ?_ _) | (with_reducible refine Kd.C_drewN ?_ _) | (with_reducible refine Kd.C_drew ?_))); (case side4 => exact (Kd.R_reads' HO254.out).2.1); rintro e w' ⟨rfl, ⟨nd, rfl⟩⟩; refine ⟨_, rfl, ?_⟩))
        go_meet
        case rel => exact ⟨_, ((t259 != t252)), (by first | rfl | (simp; done) | (simp [*]; done)), H', ⟨by first | omega | exact Nat.le_refl _⟩, ⟨by (with_reducible repeat (first | apply Kd.R_alloc | apply Kd.R_drewN | apply Kd.R_drew)); exact Kd.R_mono HO254.out (fun _ hk => hk.2)⟩, ⟨by (with_reducible repeat (first | apply Kd.R_alloc | apply Kd.R_drewN | apply Kd.R_drew)); exact Kd.R_mono HO257.out (fun _ hk => trivial)⟩, ⟨by (with_reducible repeat (first | apply Kd.R_alloc | apply Kd.R_drewN | apply Kd.R_drew)); exact Kd.R_mono HO261.out (fun _ hk => hk.2)⟩, ⟨by repeat (first | (with_reducible first | exact HB.out | apply below_alloc | apply pw_below_drewN | apply below_drew1) | exact HB.out)⟩⟩
      · replace c16 := Bool.eq_false_iff.mpr c16
        subst c16
        have H1 : (laws_FnExactFlatEdges.j0 k l0 t251 t252 t255 t258 t259 true) = some r := by rw [if_neg (show ¬ (false = true) by decide)] at H; exact H
        clear H
        have H := H1
        clear H1
        have H' := Aside0.mk H
        clear H
        obtain ⟨Ao19, co19, eo19⟩ := Kd.R_slice HO261.out
        subst eo19
        obtain ⟨Ao20, co20, eo20⟩ := Kd.R_slice HO254.out
        subst eo20
        go_wp2_with (first | ((with_reducible refine gate_callee (f := 24) rfl ?_); refine goesL_ (some 34) rfl rfl Try.func24 (by kernel_rfl) rfl #[.slice Ao19 t258.length co19, .slice Ao20 t251.length co20] rfl (by (try simp only [List.map_toArray, List.map_cons, List.map_nil]); first | done | rfl | (simp only [List.length_drop, List.length_take]; rfl)) ?_; (with_reducible refine (laws_eqInt64S.calls k _ _ t258 _ _ t251 false _ ?side1 ?side2 ?side3 ?side4 A15.out).mono ?_); (case side1 => repeat (first | exact (Kd.R_reads' HO261.out).2.2 | (with_reducible refine Kd.C_alloc ?_ _) | (with_reducible refine Kd.C_drewN ?_ _) | (with_reducible refine Kd.C_drew ?_))); (case side2 => exact (Kd.R_reads' HO261.out).2.1); (case side3 => repeat (first | exact (Kd.R_reads' HO254.out).2.2 | (with_reducible refine Kd.C_alloc ?_ _) | (with_reducible refine Kd.C_drewN ?_ _) | (with_reducible refine Kd.C_drew ?_))); (case side4 => exact (Kd.R_reads' HO254.out).2.1); rintro e w' ⟨rfl, ⟨nd, rfl⟩⟩; refine ⟨_, rfl, ?_⟩))
        go_meet
        case rel => exact ⟨_, (true), (by first | rfl | (simp; done) | (simp [*]; done)), H', ⟨by first | omega | exact Nat.le_refl _⟩, ⟨by (with_reducible repeat (first | apply Kd.R_alloc | apply Kd.R_drewN | apply Kd.R_drew)); exact Kd.R_mono HO254.out (fun _ hk => hk.2)⟩, ⟨by (with_reducible repeat (first | apply Kd.R_alloc | apply Kd.R_drewN | apply Kd.R_drew)); exact Kd.R_mono HO257.out (fun _ hk => trivial)⟩, ⟨by (with_reducible repeat (first | apply Kd.R_alloc | apply Kd.R_drewN | apply Kd.R_drew)); exact Kd.R_mono HO261.out (fun _ hk => hk.2)⟩, ⟨by repeat (first | (with_reducible first | exact HB.out | apply below_alloc | apply pw_below_drewN | apply below_drew1) | exact HB.out)⟩⟩
    case rest =>
      clear HC14
      try clear c1
      try clear c2
      try clear p2
      try clear c3
      try clear c3b0
      try clear c5
      try clear c16
      try clear c17
      try clear c19
      obtain ⟨kq, x40_13, rfl, HA, HJ13, HO_4, HO_6, HO_7, HB⟩ := hcut
      cases kq with
      | zero => exact absurd HA.out (by simp [laws_FnExactFlatEdges.j0])
      | succ kj13 =>
        have H := HA.out
        clear HA
        simp only [laws_FnExactFlatEdges.j0] at H
        by_cases c21 : x40_13 = true
        · subst c21
          have H1 : (some false) = some r := by rw [if_pos rfl] at H; exact H
          clear H
          have H := H1
          clear H1
          obtain rfl := Option.some.inj H
          go_wp2
          go_ret
          exact ⟨by first | rfl | (simp [errW_none, errW_some] <;> rfl) | (simp [*, errW_none, errW_some] <;> rfl), by repeat (first | (with_reducible first | exact HB.out | apply below_alloc | apply pw_below_drewN | apply below_drew1) | exact HB.out)⟩
        · replace c21 := Bool.eq_false_iff.mpr c21
          subst c21
          have H1 : ((laws_toTileS.f kj13 l0).bind fun t263 => ((laws_eqTileS.f kj13 t255 t263).bind fun t266 => (if t266 = true then ((laws_markTileS.f kj13 t255 1).bind fun bt267 => (if bt267.1 < 0 then (laws_FnExactFlatEdges.j1 kj13 l0 t251 t252 t258 true) else ((laws_eqInt64S.f kj13 t258 t251).bind fun t269 => (if t269 = true then (laws_FnExactFlatEdges.j1 kj13 l0 t251 t252 t258 (t259 != t252)) else (laws_FnExactFlatEdges.j1 kj13 l0 t251 t252 t258 true))))) else (some false)))) = some r := by rw [if_neg (show ¬ (false = true) by decide)] at H; exact H
          clear H
          have H := H1
          clear H1
          replace H := Option.bind_eq_some_iff.mp H
          obtain ⟨t263, A220, H⟩ := H
          replace H : ((laws_eqTileS.f kj13 t255 t263).bind fun t266 => (if t266 = true then ((laws_markTileS.f kj13 t255 1).bind fun bt267 => (if bt267.1 < 0 then (laws_FnExactFlatEdges.j1 kj13 l0 t251 t252 t258 true) else ((laws_eqInt64S.f kj13 t258 t251).bind fun t269 => (if t269 = true then (laws_FnExactFlatEdges.j1 kj13 l0 t251 t252 t258 (t259 != t252)) else (laws_FnExactFlatEdges.j1 kj13 l0 t251 t252 t258 true))))) else (some false))) = some r := H
          have A22 := Aside0.mk A220
          clear A220
          have H0_ := Aside0.mk H
          clear H
          go_wp2_with (first | ((with_reducible refine gate_callee (f := 19) rfl ?_); refine goesL_ (some 43) rfl rfl Try.func19 (by kernel_rfl) rfl #[.slice A0 l0.length c0] rfl (by (try simp only [List.map_toArray, List.map_cons, List.map_nil]); first | done | rfl | (simp only [List.length_drop, List.length_take]; rfl)) ?_; (with_reducible refine (laws_toTileS.calls kj13 _ _ l0 t263 _ ?side1 ?side2 A22.out).mono ?_); (case side1 => repeat (first | exact (Kd.C_below HR0.out HB.out) | (with_reducible refine Kd.C_alloc ?_ _) | (with_reducible refine Kd.C_drewN ?_ _) | (with_reducible refine Kd.C_drew ?_))); (case side2 => exact HC0.out); rintro e w23 ⟨v264, rfl, ho0, hb⟩; refine ⟨_, rfl, ?_⟩; have n0_ := Aside0.mk (Kd.R_below (by (with_reducible repeat (first | apply Kd.R_alloc | apply Kd.R_drewN | apply Kd.R_drew)); exact HO_4.out) hb); have n1_ := Aside0.mk (Kd.R_elder' (by (with_reducible repeat (first | apply Kd.R_alloc | apply Kd.R_drewN | apply Kd.R_drew)); exact HO_6.out) (Kd.R_base ho0) hb); have n2_ := Aside0.mk (Kd.R_below (by (with_reducible repeat (first | apply Kd.R_alloc | apply Kd.R_drewN | apply Kd.R_drew)); exact HO_7.out) hb); have n3_ := Aside0.mk (Kd.R_lower (Kd.R_new' ho0 (Kd.R_lt (by (with_reducible repeat (first | apply Kd.R_alloc | apply Kd.R_drewN | apply Kd.R_drew)); exact HO_6.out))) (below_size (by repeat (first | (with_reducible first | exact HB.out | apply below_alloc | apply pw_below_drewN | apply below_drew1) | exact HB.out)))); have n4_ := Aside0.mk (below_step (by repeat (first | (with_reducible first | exact HB.out | apply below_alloc | apply pw_below_drewN | apply below_drew1) | exact HB.out)) hb); clear HO_4; clear HO_6; clear HO_7; clear HB; have HO_4 := n0_; have HO_6 := n1_; have HO_7 := n2_; have HO265 := n3_; have HB := n4_; clear n0_ n1_ n2_ n3_ n4_; (try clear hb); (try clear hb2); (try clear hk); (try clear hi); (try clear ho0); refine Stop0.out ?_))
          refine Stop0.mk ?_
          have H := H0_.out
          clear H0_
          replace H := Option.bind_eq_some_iff.mp H
          obtain ⟨t266, A240, H⟩ := H
          replace H : (if t266 = true then ((laws_markTileS.f kj13 t255 1).bind fun bt267 => (if bt267.1 < 0 then (laws_FnExactFlatEdges.j1 kj13 l0 t251 t252 t258 true) else ((laws_eqInt64S.f kj13 t258 t251).bind fun t269 => (if t269 = true then (laws_FnExactFlatEdges.j1 kj13 l0 t251 t252 t258 (t259 != t252)) else (laws_FnExactFlatEdges.j1 kj13 l0 t251 t252 t258 true))))) else (some false)) = some r := H
          have A24 := Aside0.mk A240
          clear A240
          have H0_ := Aside0.mk H
          clear H
          obtain ⟨Ao25, co25, eo25⟩ := Kd.R_slice HO265.out
          subst eo25
          go_wp2_with (first | ((with_reducible refine gate_callee (f := 21) rfl ?_); refine goesL_ (some 44) rfl rfl Try.func21 (by kernel_rfl) rfl #[.slice Ao12 t255.length co12, .slice Ao25 t263.length co25] rfl (by (try simp only [List.map_toArray, List.map_cons, List.map_nil]); first | done | rfl | (simp only [List.length_drop, List.length_take]; rfl)) ?_; (with_reducible refine (laws_eqTileS.calls kj13 _ _ t255 _ _ t263 t266 _ ?side1 ?side2 ?side3 ?side4 A24.out).mono ?_); (case side1 => repeat (first | exact (Kd.R_reads' HO_6.out).2.2 | (with_reducible refine Kd.C_alloc ?_ _) | (with_reducible refine Kd.C_drewN ?_ _) | (with_reducible refine Kd.C_drew ?_))); (case side2 => exact (Kd.R_reads' HO_6.out).2.1); (case side3 => repeat (first | exact (Kd.R_reads' HO265.out).2.2 | (with_reducible refine Kd.C_alloc ?_ _) | (with_reducible refine Kd.C_drewN ?_ _) | (with_reducible refine Kd.C_drew ?_))); (case side4 => exact (Kd.R_reads' HO265.out).2.1); rintro e w26 ⟨rfl, hb⟩; refine ⟨_, rfl, ?_⟩; have n0_ := Aside0.mk (Kd.R_below (by (with_reducible repeat (first | apply Kd.R_alloc | apply Kd.R_drewN | apply Kd.R_drew)); exact HO_4.out) hb); have n1_ := Aside0.mk (Kd.R_below (by (with_reducible repeat (first | apply Kd.R_alloc | apply Kd.R_drewN | apply Kd.R_drew)); exact HO_6.out) hb); have n2_ := Aside0.mk (Kd.R_below (by (with_reducible repeat (first | apply Kd.R_alloc | apply Kd.R_drewN | apply Kd.R_drew)); exact HO_7.out) hb); have n3_ := Aside0.mk (Kd.R_below (by (with_reducible repeat (first | apply Kd.R_alloc | apply Kd.R_drewN | apply Kd.R_drew)); exact HO265.out) hb); have n4_ := Aside0.mk (below_step (by repeat (first | (with_reducible first | exact HB.out | apply below_alloc | apply pw_below_drewN | apply below_drew1) | exact HB.out)) hb); clear HO_4; clear HO_6; clear HO_7; clear HO265; clear HB; have HO_4 := n0_; have HO_6 := n1_; have HO_7 := n2_; have HO265 := n3_; have HB := n4_; clear n0_ n1_ n2_ n3_ n4_; (try clear hb); (try clear hb2); (try clear hk); (try clear hi); refine Stop0.out ?_))
          refine Stop0.mk ?_
          have H := H0_.out
          clear H0_
          by_cases c27 : t266 = true
          · subst c27
            have H1 : ((laws_markTileS.f kj13 t255 1).bind fun bt267 => (if bt267.1 < 0 then (laws_FnExactFlatEdges.j1 kj13 l0 t251 t252 t258 true) else ((laws_eqInt64S.f kj13 t258 t251).bind fun t269 => (if t269 = true then (laws_FnExactFlatEdges.j1 kj13 l0 t251 t252 t258 (t259 != t252)) else (laws_FnExactFlatEdges.j1 kj13 l0 t251 t252 t258 true))))) = some r := by rw [if_pos rfl] at H; exact H
            clear H
            have H := H1
            clear H1
            replace H := Option.bind_eq_some_iff.mp H
            obtain ⟨⟨t267, t268⟩, A280, H⟩ := H
            replace H : (if t267 < 0 then (laws_FnExactFlatEdges.j1 kj13 l0 t251 t252 t258 true) else ((laws_eqInt64S.f kj13 t258 t251).bind fun t269 => (if t269 = true then (laws_FnExactFlatEdges.j1 kj13 l0 t251 t252 t258 (t259 != t252)) else (laws_FnExactFlatEdges.j1 kj13 l0 t251 t252 t258 true)))) = some r := H
            have A28 := Aside0.mk A280
            clear A280
            have H0_ := Aside0.mk H
            clear H
            go_wp2_with (first | ((with_reducible refine gate_callee (f := 25) rfl ?_); refine goesL_ (some 48) rfl rfl Try.func25 (by kernel_rfl) rfl #[.slice Ao12 t255.length co12, .int .i64 1] rfl (by (try simp only [List.map_toArray, List.map_cons, List.map_nil]); first | done | rfl | (simp only [List.length_drop, List.length_take]; rfl)) ?_; (with_reducible refine (laws_markTileS.calls kj13 (fun k_ => some k_ = (.slice Ao12 t255.length co12 : Value).ownBlock) (.slice Ao12 t255.length co12) t255 1 t267 t268 w _ ?side1 ?side2 A28.out).mono ?_); (case side1 => repeat (first | (with_reducible first | exact HB.out | apply below_alloc | apply pw_below_drewN | apply below_drew1) | exact HB.out)); (case side2 => exact Kd.R_tight rfl HO_6.out); rintro e w29 ⟨rfl, hy0, hb, hkp⟩; refine ⟨_, rfl, ?_⟩; have n0_ := Aside0.mk (Kd.R_mono (ok' := fun k_ => some k_ ≠ (v260 : Value).ownBlock) (Kd.R_keptB ((Kd.R_apart' HO_4.out (Kd.R_typed HO_6.out) (by decide))) hkp (fun k_ hk_ hs_ => (hk_.2) hs_)) (fun k_ hk_ => hk_.1.1)); have n1_ := Aside0.mk (Kd.R_reok rfl hy0 (fun k_ e_ => HO_6.out.1 k_ e_)); have n2_ := Aside0.mk (Kd.R_mono (ok' := fun k_ => some k_ ≠ (v253 : Value).ownBlock) (Kd.R_keptB ((Kd.R_apart' HO_7.out (Kd.R_typed HO_6.out) (by decide))) hkp (fun k_ hk_ hs_ => (hk_.2) hs_)) (fun k_ hk_ => hk_.1.1)); have n3_ := Aside0.mk (Kd.R_mono (ok' := fun k_ => some k_ ≠ (.slice Ao12 t255.length co12 : Value).ownBlock) (Kd.R_keptB (HO265.out) hkp (fun k_ hk_ hs_ => (hk_.2) hs_)) (fun k_ hk_ => hk_.1.2)); have n4_ := Aside0.mk (hb); clear HO_4; clear HO_6; clear HO_7; clear HO265; clear HB; have HO_4 := n0_; have HO_6 := n1_; have HO_7 := n2_; have HO265 := n3_; have HB := n4_; clear n0_ n1_ n2_ n3_ n4_; (try clear hb); (try clear hkp); (try clear hy0); refine Stop0.out ?_))
            refine Stop0.mk ?_
            have H := H0_.out
            clear H0_
            have HC30 := Aside0.mk H
            clear H
            go_upto_region 14 with (fail)
            go_cut [61] (fun v61 wc => ∃ (kq : Nat) (x61_29 : Bool), v61 = .bool x61_29 ∧ Aside0 (laws_FnExactFlatEdges.j1 kq l0 t251 t252 t258 x61_29 = some r) ∧ Aside0 (kq ≤ kj13) ∧ Aside0 (Kd.R (Kd.int .i64) 2 wc w.heap.size (fun k_ => some k_ ≠ (v260 : Value).ownBlock) v253 t251) ∧ Aside0 (Kd.R (Kd.int .i64) 2 wc w.heap.size (fun k_ => some k_ ≠ (v253 : Value).ownBlock) v260 t258) ∧ Aside0 (Below w.heap.size w wc))
            case first =>
              have H := HC30.out
              clear HC30
              by_cases c31 : t267 < 0
              · rw [if_pos c31] at H
                have c31b0 : decide (t267 < 0) = true := decide_eq_true c31
                clear c31
                (first | rw [c31b0] | (simp only [i64_w, i32_w]; rw [c31b0]) | skip)
                have H' := Aside0.mk H
                clear H
                go_wp2
                go_meet
                case rel => exact ⟨_, (true), (by first | rfl | (simp; done) | (simp [*]; done)), H', ⟨by have := HJ13.out; first | omega | exact Nat.le_refl _⟩, ⟨by (with_reducible repeat (first | apply Kd.R_alloc | apply Kd.R_drewN | apply Kd.R_drew)); exact HO_4.out⟩, ⟨by (with_reducible repeat (first | apply Kd.R_alloc | apply Kd.R_drewN | apply Kd.R_drew)); exact HO_7.out⟩, ⟨by repeat (first | (with_reducible first | exact HB.out | apply below_alloc | apply pw_below_drewN | apply below_drew1) | exact HB.out)⟩⟩
              · rw [if_neg c31] at H
                have c31b0 : decide (t267 < 0) = false := decide_eq_false c31
                clear c31
                (first | rw [c31b0] | (simp only [i64_w, i32_w]; rw [c31b0]) | skip)
                replace H := Option.bind_eq_some_iff.mp H
                obtain ⟨t269, A320, H⟩ := H
                replace H : (if t269 = true then (laws_FnExactFlatEdges.j1 kj13 l0 t251 t252 t258 (t259 != t252)) else (laws_FnExactFlatEdges.j1 kj13 l0 t251 t252 t258 true)) = some r := H
                have A32 := Aside0.mk A320
                clear A320
                have H0_ := Aside0.mk H
                clear H
                obtain ⟨Ao33, co33, eo33⟩ := Kd.R_slice HO_7.out
                subst eo33
                obtain ⟨Ao34, co34, eo34⟩ := Kd.R_slice HO_4.out
                subst eo34
                go_wp2_with (first | (go_at_call 24; (with_reducible refine (laws_eqInt64S.calls kj13 _ _ t258 _ _ t251 t269 _ ?side1 ?side2 ?side3 ?side4 A32.out).mono ?_); (case side1 => repeat (first | exact (Kd.R_reads' HO_7.out).2.2 | (with_reducible refine Kd.C_alloc ?_ _) | (with_reducible refine Kd.C_drewN ?_ _) | (with_reducible refine Kd.C_drew ?_))); (case side2 => exact (Kd.R_reads' HO_7.out).2.1); (case side3 => repeat (first | exact (Kd.R_reads' HO_4.out).2.2 | (with_reducible refine Kd.C_alloc ?_ _) | (with_reducible refine Kd.C_drewN ?_ _) | (with_reducible refine Kd.C_drew ?_))); (case side4 => exact (Kd.R_reads' HO_4.out).2.1); rintro e w' ⟨rfl, ⟨nd, rfl⟩⟩; refine Stop0.out ?_))
                refine Stop0.mk ?_
                have H := H0_.out
                clear H0_
                by_cases c35 : t269 = true
                · subst c35
                  have H1 : (laws_FnExactFlatEdges.j1 kj13 l0 t251 t252 t258 (t259 != t252)) = some r := by rw [if_pos rfl] at H; exact H
                  clear H
                  have H := H1
                  clear H1
                  have H' := Aside0.mk H
                  clear H
                  go_wp2
                  go_meet
                  case rel => exact ⟨_, ((t259 != t252)), (by first | rfl | (simp; done) | (simp [*]; done)), H', ⟨by have := HJ13.out; first | omega | exact Nat.le_refl _⟩, ⟨by (with_reducible repeat (first | apply Kd.R_alloc | apply Kd.R_drewN | apply Kd.R_drew)); exact HO_4.out⟩, ⟨by (with_reducible repeat (first | apply Kd.R_alloc | apply Kd.R_drewN | apply Kd.R_drew)); exact HO_7.out⟩, ⟨by repeat (first | (with_reducible first | exact HB.out | apply below_alloc | apply pw_below_drewN | apply below_drew1) | exact HB.out)⟩⟩
                · replace c35 := Bool.eq_false_iff.mpr c35
                  subst c35
                  have H1 : (laws_FnExactFlatEdges.j1 kj13 l0 t251 t252 t258 true) = some r := by rw [if_neg (show ¬ (false = true) by decide)] at H; exact H
                  clear H
                  have H := H1
                  clear H1
                  have H' := Aside0.mk H
                  clear H
                  go_wp2
                  go_meet
                  case rel => exact ⟨_, (true), (by first | rfl | (simp; done) | (simp [*]; done)), H', ⟨by have := HJ13.out; first | omega | exact Nat.le_refl _⟩, ⟨by (with_reducible repeat (first | apply Kd.R_alloc | apply Kd.R_drewN | apply Kd.R_drew)); exact HO_4.out⟩, ⟨by (with_reducible repeat (first | apply Kd.R_alloc | apply Kd.R_drewN | apply Kd.R_drew)); exact HO_7.out⟩, ⟨by repeat (first | (with_reducible first | exact HB.out | apply below_alloc | apply pw_below_drewN | apply below_drew1) | exact HB.out)⟩⟩
            case rest =>
              clear HC30
              try clear c1
              try clear c2
              try clear p2
              try clear c3
              try clear c3b0
              try clear c5
              try clear c16
              try clear c17
              try clear c19
              try clear c21
              try clear c22
              try clear c23
              try clear c24
              try clear c25
              try clear c27
              try clear c31
              try clear c31b0
              try clear c35
              try clear p2
              obtain ⟨kq, x61_29, rfl, HA, HJ29, HO_4, HO_7, HB⟩ := hcut
              cases kq with
              | zero => exact absurd HA.out (by simp [laws_FnExactFlatEdges.j1])
              | succ kj29 =>
                have H := HA.out
                clear HA
                simp only [laws_FnExactFlatEdges.j1] at H
                by_cases c36 : x61_29 = true
                · subst c36
                  have H1 : (some false) = some r := by rw [if_pos rfl] at H; exact H
                  clear H
                  have H := H1
                  clear H1
                  obtain rfl := Option.some.inj H
                  go_wp2
                  go_ret
                  exact ⟨by first | rfl | (simp [errW_none, errW_some] <;> rfl) | (simp [*, errW_none, errW_some] <;> rfl), by repeat (first | (with_reducible first | exact HB.out | apply below_alloc | apply pw_below_drewN | apply below_drew1) | exact HB.out)⟩
                · replace c36 := Bool.eq_false_iff.mpr c36
                  subst c36
                  have H1 : ((laws_markInt64S.f kj29 t258 1).bind fun bt270 => ((laws_heldInt64S.f kj29 bt270.2 1).bind fun t272 => (if t272 < 0 then (some false) else (if t272 = bt270.1 then ((laws_toTileS.f kj29 l0).bind fun t273 => ((impl_FlatEdges.f kj29 t273).bind fun bt276 => ((laws_eqInt64S.f kj29 bt276.1 t251).bind fun t280 => (if t280 = true then (laws_FnExactFlatEdges.j2 kj29 bt270.2 bt270.1 (bt276.2 != t252)) else (laws_FnExactFlatEdges.j2 kj29 bt270.2 bt270.1 true))))) else (some false))))) = some r := by rw [if_neg (show ¬ (false = true) by decide)] at H; exact H
                  clear H
                  have H := H1
                  clear H1
                  replace H := Option.bind_eq_some_iff.mp H
                  obtain ⟨⟨t270, t271⟩, A370, H⟩ := H
                  replace H : ((laws_heldInt64S.f kj29 t271 1).bind fun t272 => (if t272 < 0 then (some false) else (if t272 = t270 then ((laws_toTileS.f kj29 l0).bind fun t273 => ((impl_FlatEdges.f kj29 t273).bind fun bt276 => ((laws_eqInt64S.f kj29 bt276.1 t251).bind fun t280 => (if t280 = true then (laws_FnExactFlatEdges.j2 kj29 t271 t270 (bt276.2 != t252)) else (laws_FnExactFlatEdges.j2 kj29 t271 t270 true))))) else (some false)))) = some r := H
                  have A37 := Aside0.mk A370
                  clear A370
                  have H0_ := Aside0.mk H
                  clear H
                  obtain ⟨Ao38, co38, eo38⟩ := Kd.R_slice HO_7.out
                  subst eo38
                  go_wp2_with (first | ((with_reducible refine gate_callee (f := 26) rfl ?_); refine goesL_ (some 64) rfl rfl Try.func26 (by kernel_rfl) rfl #[.slice Ao38 t258.length co38, .int .i64 1] rfl (by (try simp only [List.map_toArray, List.map_cons, List.map_nil]); first | done | rfl | (simp only [List.length_drop, List.length_take]; rfl)) ?_; (with_reducible refine (laws_markInt64S.calls kj29 (fun k_ => some k_ = (.slice Ao38 t258.length co38 : Value).ownBlock) (.slice Ao38 t258.length co38) t258 1 t270 t271 w _ ?side1 ?side2 A37.out).mono ?_); (case side1 => repeat (first | (with_reducible first | exact HB.out | apply below_alloc | apply pw_below_drewN | apply below_drew1) | exact HB.out)); (case side2 => exact Kd.R_tight rfl HO_7.out); rintro e w39 ⟨rfl, hy0, hb, hkp⟩; refine ⟨_, rfl, ?_⟩; have n0_ := Aside0.mk (Kd.R_mono (ok' := fun k_ => some k_ ≠ (.slice Ao38 t258.length co38 : Value).ownBlock) (Kd.R_keptB (HO_4.out) hkp (fun k_ hk_ hs_ => (hk_) hs_)) (fun k_ hk_ => hk_.1)); have n1_ := Aside0.mk (Kd.R_reok rfl hy0 (fun k_ e_ => HO_7.out.1 k_ e_)); have n2_ := Aside0.mk (hb); clear HO_4; clear HO_7; clear HB; have HO_4 := n0_; have HO_7 := n1_; have HB := n2_; clear n0_ n1_ n2_; (try clear hb); (try clear hkp); (try clear hy0); refine Stop0.out ?_))
                  refine Stop0.mk ?_
                  have H := H0_.out
                  clear H0_
                  replace H := Option.bind_eq_some_iff.mp H
                  obtain ⟨t272, A400, H⟩ := H
                  replace H : (if t272 < 0 then (some false) else (if t272 = t270 then ((laws_toTileS.f kj29 l0).bind fun t273 => ((impl_FlatEdges.f kj29 t273).bind fun bt276 => ((laws_eqInt64S.f kj29 bt276.1 t251).bind fun t280 => (if t280 = true then (laws_FnExactFlatEdges.j2 kj29 t271 t270 (bt276.2 != t252)) else (laws_FnExactFlatEdges.j2 kj29 t271 t270 true))))) else (some false))) = some r := H
                  have A40 := Aside0.mk A400
                  clear A400
                  have H0_ := Aside0.mk H
                  clear H
                  go_wp2_with (first | ((with_reducible refine gate_callee (f := 27) rfl ?_); refine goesL_ (some 67) rfl rfl Try.func27 (by kernel_rfl) rfl #[.slice Ao38 t271.length co38, .int .i64 1] rfl (by (try simp only [List.map_toArray, List.map_cons, List.map_nil]); first | done | (rw [show t271.length = t258.length from (Kd.R_reads' HO_7.out).1.symm] <;> rfl) | rfl | (simp only [List.length_drop, List.length_take]; rfl)) ?_; (with_reducible refine (laws_heldInt64S.calls kj29 _ _ t271 1 t272 _ ?side1 ?side2 A40.out).mono ?_); (case side1 => repeat (first | exact (Kd.R_reads' HO_7.out).2.2 | (with_reducible refine Kd.C_alloc ?_ _) | (with_reducible refine Kd.C_drewN ?_ _) | (with_reducible refine Kd.C_drew ?_))); (case side2 => rw [show t271.length = t258.length from (Kd.R_reads' HO_7.out).1.symm]; exact (Kd.R_reads' HO_7.out).2.1); rintro e w' ⟨rfl, ⟨nd, rfl⟩⟩; refine ⟨_, rfl, ?_⟩; refine Stop0.out ?_))
                  refine Stop0.mk ?_
                  have H := H0_.out
                  clear H0_
                  by_cases c41 : t272 < 0
                  · rw [if_pos c41] at H
                    have c41b0 : decide (t272 < 0) = true := decide_eq_true c41
                    clear c41
                    obtain rfl := Option.some.inj H
                    go_wp2
                    go_ret
                    exact ⟨by first | rfl | (simp [errW_none, errW_some] <;> rfl) | (simp [*, errW_none, errW_some] <;> rfl), by repeat (first | (with_reducible first | exact HB.out | apply below_alloc | apply pw_below_drewN | apply below_drew1) | exact HB.out)⟩
                  · rw [if_neg c41] at H
                    have c41b0 : decide (t272 < 0) = false := decide_eq_false c41
                    clear c41
                    by_cases c42 : t272 = t270
                    · rw [if_pos c42] at H
                      have c42b0 : (t272 == t270) = true := beq_iff_eq.mpr c42
                      have c42b1 : (t272 != t270) = false := bne_eq_false_iff_eq.mpr c42
                      clear c42
                      replace H := Option.bind_eq_some_iff.mp H
                      obtain ⟨t273, A430, H⟩ := H
                      replace H : ((impl_FlatEdges.f kj29 t273).bind fun bt276 => ((laws_eqInt64S.f kj29 bt276.1 t251).bind fun t280 => (if t280 = true then (laws_FnExactFlatEdges.j2 kj29 t271 t270 (bt276.2 != t252)) else (laws_FnExactFlatEdges.j2 kj29 t271 t270 true)))) = some r := H
                      have A43 := Aside0.mk A430
                      clear A430
                      have H0_ := Aside0.mk H
                      clear H
                      go_wp2_with (first | ((with_reducible refine gate_callee (f := 19) rfl ?_); refine goesL_ (some 75) rfl rfl Try.func19 (by kernel_rfl) rfl #[.slice A0 l0.length c0] rfl (by (try simp only [List.map_toArray, List.map_cons, List.map_nil]); first | done | rfl | (simp only [List.length_drop, List.length_take]; rfl)) ?_; (with_reducible refine (laws_toTileS.calls kj29 _ _ l0 t273 _ ?side1 ?side2 A43.out).mono ?_); (case side1 => repeat (first | exact (Kd.C_below HR0.out HB.out) | (with_reducible refine Kd.C_alloc ?_ _) | (with_reducible refine Kd.C_drewN ?_ _) | (with_reducible refine Kd.C_drew ?_))); (case side2 => exact HC0.out); rintro e w44 ⟨v274, rfl, ho0, hb⟩; refine ⟨_, rfl, ?_⟩; have n0_ := Aside0.mk (Kd.R_below (by (with_reducible repeat (first | apply Kd.R_alloc | apply Kd.R_drewN | apply Kd.R_drew)); exact HO_4.out) hb); have n1_ := Aside0.mk (Kd.R_below (by (with_reducible repeat (first | apply Kd.R_alloc | apply Kd.R_drewN | apply Kd.R_drew)); exact HO_7.out) hb); have n2_ := Aside0.mk (Kd.R_lower ho0 (below_size (by repeat (first | (with_reducible first | exact HB.out | apply below_alloc | apply pw_below_drewN | apply below_drew1) | exact HB.out)))); have n3_ := Aside0.mk (below_step (by repeat (first | (with_reducible first | exact HB.out | apply below_alloc | apply pw_below_drewN | apply below_drew1) | exact HB.out)) hb); clear HO_4; clear HO_7; clear HB; have HO_4 := n0_; have HO_7 := n1_; have HO275 := n2_; have HB := n3_; clear n0_ n1_ n2_ n3_; (try clear hb); (try clear hb2); (try clear hk); (try clear hi); (try clear ho0); refine Stop0.out ?_))
                      refine Stop0.mk ?_
                      have H := H0_.out
                      clear H0_
                      replace H := Option.bind_eq_some_iff.mp H
                      obtain ⟨⟨t276, t277⟩, A450, H⟩ := H
                      replace H : ((laws_eqInt64S.f kj29 t276 t251).bind fun t280 => (if t280 = true then (laws_FnExactFlatEdges.j2 kj29 t271 t270 (t277 != t252)) else (laws_FnExactFlatEdges.j2 kj29 t271 t270 true))) = some r := H
                      have A45 := Aside0.mk A450
                      clear A450
                      have H0_ := Aside0.mk H
                      clear H
                      obtain ⟨Ao46, co46, eo46⟩ := Kd.R_slice HO275.out
                      subst eo46
                      go_wp2_with (first | ((with_reducible refine gate_callee (f := 23) rfl ?_); refine goesL_ (some 76) rfl rfl Try.func23 (by kernel_rfl) rfl #[.slice Ao46 t273.length co46] rfl (by (try simp only [List.map_toArray, List.map_cons, List.map_nil]); first | done | rfl | (simp only [List.length_drop, List.length_take]; rfl)) ?_; (with_reducible refine (impl_FlatEdges.calls kj29 _ _ t273 t276 t277 _ ?side1 ?side2 A45.out).mono ?_); (case side1 => repeat (first | exact (Kd.R_reads' HO275.out).2.2 | (with_reducible refine Kd.C_alloc ?_ _) | (with_reducible refine Kd.C_drewN ?_ _) | (with_reducible refine Kd.C_drew ?_))); (case side2 => exact (Kd.R_reads' HO275.out).2.1); rintro e w47 ⟨v278, rfl, ho0, hb⟩; refine ⟨_, rfl, ?_⟩; have n0_ := Aside0.mk (Kd.R_elder' (by (with_reducible repeat (first | apply Kd.R_alloc | apply Kd.R_drewN | apply Kd.R_drew)); exact HO_4.out) (Kd.R_base ho0) hb); have n1_ := Aside0.mk (Kd.R_elder' (by (with_reducible repeat (first | apply Kd.R_alloc | apply Kd.R_drewN | apply Kd.R_drew)); exact HO_7.out) (Kd.R_base ho0) hb); have n2_ := Aside0.mk (Kd.R_below (by (with_reducible repeat (first | apply Kd.R_alloc | apply Kd.R_drewN | apply Kd.R_drew)); exact HO275.out) hb); have n3_ := Aside0.mk (Kd.R_lower (Kd.R_new' (Kd.R_new' ho0 (Kd.R_lt (by (with_reducible repeat (first | apply Kd.R_alloc | apply Kd.R_drewN | apply Kd.R_drew)); exact HO_4.out))) (Kd.R_lt (by (with_reducible repeat (first | apply Kd.R_alloc | apply Kd.R_drewN | apply Kd.R_drew)); exact HO_7.out))) (below_size (by repeat (first | (with_reducible first | exact HB.out | apply below_alloc | apply pw_below_drewN | apply below_drew1) | exact HB.out)))); have n4_ := Aside0.mk (below_step (by repeat (first | (with_reducible first | exact HB.out | apply below_alloc | apply pw_below_drewN | apply below_drew1) | exact HB.out)) hb); clear HO_4; clear HO_7; clear HO275; clear HB; have HO_4 := n0_; have HO_7 := n1_; have HO275 := n2_; have HO279 := n3_; have HB := n4_; clear n0_ n1_ n2_ n3_ n4_; (try clear hb); (try clear hb2); (try clear hk); (try clear hi); (try clear ho0); refine Stop0.out ?_))
                      refine Stop0.mk ?_
                      have H := H0_.out
                      clear H0_
                      have HC48 := Aside0.mk H
                      clear H
                      go_upto_region 25 with (fail)
                      go_cut [87] (fun v87 wc => ∃ (kq : Nat) (x87_47 : Bool), v87 = .bool x87_47 ∧ Aside0 (laws_FnExactFlatEdges.j2 kq t271 t270 x87_47 = some r) ∧ Aside0 (kq ≤ kj29) ∧ Aside0 (Kd.R (Kd.int .i64) 2 wc w.heap.size (fun _ => True) (.slice Ao38 t258.length co38) t271) ∧ Aside0 (Below w.heap.size w wc))
                      case first =>
                        have H := HC48.out
                        clear HC48
                        replace H := Option.bind_eq_some_iff.mp H
                        obtain ⟨t280, A490, H⟩ := H
                        replace H : (if t280 = true then (laws_FnExactFlatEdges.j2 kj29 t271 t270 (t277 != t252)) else (laws_FnExactFlatEdges.j2 kj29 t271 t270 true)) = some r := H
                        have A49 := Aside0.mk A490
                        clear A490
                        by_cases c50 : t280 = true
                        · subst c50
                          have H1 : (laws_FnExactFlatEdges.j2 kj29 t271 t270 (t277 != t252)) = some r := by rw [if_pos rfl] at H; exact H
                          clear H
                          have H := H1
                          clear H1
                          have H' := Aside0.mk H
                          clear H
                          obtain ⟨Ao51, co51, eo51⟩ := Kd.R_slice HO279.out
                          subst eo51
                          obtain ⟨Ao52, co52, eo52⟩ := Kd.R_slice HO_4.out
                          subst eo52
                          go_wp2_with (first | ((with_reducible refine gate_callee (f := 24) rfl ?_); refine goesL_ (some 81) rfl rfl Try.func24 (by kernel_rfl) rfl #[.slice Ao51 t276.length co51, .slice Ao52 t251.length co52] rfl (by (try simp only [List.map_toArray, List.map_cons, List.map_nil]); first | done | rfl | (simp only [List.length_drop, List.length_take]; rfl)) ?_; (with_reducible refine (laws_eqInt64S.calls kj29 _ _ t276 _ _ t251 true _ ?side1 ?side2 ?side3 ?side4 A49.out).mono ?_); (case side1 => repeat (first | exact (Kd.R_reads' HO279.out).2.2 | (with_reducible refine Kd.C_alloc ?_ _) | (with_reducible refine Kd.C_drewN ?_ _) | (with_reducible refine Kd.C_drew ?_))); (case side2 => exact (Kd.R_reads' HO279.out).2.1); (case side3 => repeat (first | exact (Kd.R_reads' HO_4.out).2.2 | (with_reducible refine Kd.C_alloc ?_ _) | (with_reducible refine Kd.C_drewN ?_ _) | (with_reducible refine Kd.C_drew ?_))); (case side4 => exact (Kd.R_reads' HO_4.out).2.1); rintro e w' ⟨rfl, ⟨nd, rfl⟩⟩; refine ⟨_, rfl, ?_⟩))
                          go_meet
                          case rel => exact ⟨_, ((t277 != t252)), (by first | rfl | (simp; done) | (simp [*]; done)), H', ⟨by have := HJ13.out; have := HJ29.out; first | omega | exact Nat.le_refl _⟩, ⟨by (with_reducible repeat (first | apply Kd.R_alloc | apply Kd.R_drewN | apply Kd.R_drew)); exact Kd.R_mono HO_7.out (fun _ hk => trivial)⟩, ⟨by repeat (first | (with_reducible first | exact HB.out | apply below_alloc | apply pw_below_drewN | apply below_drew1) | exact HB.out)⟩⟩
                        · replace c50 := Bool.eq_false_iff.mpr c50
                          subst c50
                          have H1 : (laws_FnExactFlatEdges.j2 kj29 t271 t270 true) = some r := by rw [if_neg (show ¬ (false = true) by decide)] at H; exact H
                          clear H
                          have H := H1
                          clear H1
                          have H' := Aside0.mk H
                          clear H
                          obtain ⟨Ao53, co53, eo53⟩ := Kd.R_slice HO279.out
                          subst eo53
                          obtain ⟨Ao54, co54, eo54⟩ := Kd.R_slice HO_4.out
                          subst eo54
                          go_wp2_with (first | ((with_reducible refine gate_callee (f := 24) rfl ?_); refine goesL_ (some 81) rfl rfl Try.func24 (by kernel_rfl) rfl #[.slice Ao53 t276.length co53, .slice Ao54 t251.length co54] rfl (by (try simp only [List.map_toArray, List.map_cons, List.map_nil]); first | done | rfl | (simp only [List.length_drop, List.length_take]; rfl)) ?_; (with_reducible refine (laws_eqInt64S.calls kj29 _ _ t276 _ _ t251 false _ ?side1 ?side2 ?side3 ?side4 A49.out).mono ?_); (case side1 => repeat (first | exact (Kd.R_reads' HO279.out).2.2 | (with_reducible refine Kd.C_alloc ?_ _) | (with_reducible refine Kd.C_drewN ?_ _) | (with_reducible refine Kd.C_drew ?_))); (case side2 => exact (Kd.R_reads' HO279.out).2.1); (case side3 => repeat (first | exact (Kd.R_reads' HO_4.out).2.2 | (with_reducible refine Kd.C_alloc ?_ _) | (with_reducible refine Kd.C_drewN ?_ _) | (with_reducible refine Kd.C_drew ?_))); (case side4 => exact (Kd.R_reads' HO_4.out).2.1); rintro e w' ⟨rfl, ⟨nd, rfl⟩⟩; refine ⟨_, rfl, ?_⟩))
                          go_meet
                          case rel => exact ⟨_, (true), (by first | rfl | (simp; done) | (simp [*]; done)), H', ⟨by have := HJ13.out; have := HJ29.out; first | omega | exact Nat.le_refl _⟩, ⟨by (with_reducible repeat (first | apply Kd.R_alloc | apply Kd.R_drewN | apply Kd.R_drew)); exact Kd.R_mono HO_7.out (fun _ hk => trivial)⟩, ⟨by repeat (first | (with_reducible first | exact HB.out | apply below_alloc | apply pw_below_drewN | apply below_drew1) | exact HB.out)⟩⟩
                      case rest =>
                        clear HC48
                        try clear c1
                        try clear c2
                        try clear p2
                        try clear c3
                        try clear c3b0
                        try clear c4
                        try clear c5
                        try clear c16
                        try clear c17
                        try clear c19
                        try clear c21
                        try clear c22
                        try clear c23
                        try clear c24
                        try clear c25
                        try clear c26
                        try clear c27
                        try clear c31
                        try clear c31b0
                        try clear c35
                        try clear c36
                        try clear c41
                        try clear c41b0
                        try clear c42
                        try clear c42b0
                        try clear c42b1
                        try clear c50
                        try clear p2
                        obtain ⟨kq, x87_47, rfl, HA, HJ47, HO_7, HB⟩ := hcut
                        have hl7_47 := (Kd.R_reads' HO_7.out).1
                        rw [hl7_47] at HO_7
                        (try simp only [hl7_47])
                        cases kq with
                        | zero => exact absurd HA.out (by simp [laws_FnExactFlatEdges.j2])
                        | succ kj47 =>
                          have H := HA.out
                          clear HA
                          simp only [laws_FnExactFlatEdges.j2] at H
                          by_cases c55 : x87_47 = true
                          · subst c55
                            have H1 : (some false) = some r := by rw [if_pos rfl] at H; exact H
                            clear H
                            have H := H1
                            clear H1
                            obtain rfl := Option.some.inj H
                            go_wp2
                            go_ret
                            exact ⟨by first | rfl | (simp [errW_none, errW_some] <;> rfl) | (simp [*, errW_none, errW_some] <;> rfl), by repeat (first | (with_reducible first | exact HB.out | apply below_alloc | apply pw_below_drewN | apply below_drew1) | exact HB.out)⟩
                          · replace c55 := Bool.eq_false_iff.mpr c55
                            subst c55
                            have H1 : ((laws_heldInt64S.f kj47 t271 1).bind fun t281 => (if t281 < 0 then (some false) else (if t281 = t270 then (some true) else (some false)))) = some r := by rw [if_neg (show ¬ (false = true) by decide)] at H; exact H
                            clear H
                            have H := H1
                            clear H1
                            replace H := Option.bind_eq_some_iff.mp H
                            obtain ⟨t281, A560, H⟩ := H
                            replace H : (if t281 < 0 then (some false) else (if t281 = t270 then (some true) else (some false))) = some r := H
                            have A56 := Aside0.mk A560
                            clear A560
                            have H0_ := Aside0.mk H
                            clear H
                            go_wp2_with (first | ((with_reducible refine gate_callee (f := 27) rfl ?_); refine goesL_ (some 90) rfl rfl Try.func27 (by kernel_rfl) rfl #[.slice Ao38 t271.length co38, .int .i64 1] rfl (by (try simp only [List.map_toArray, List.map_cons, List.map_nil]); first | done | rfl | (simp only [List.length_drop, List.length_take]; rfl)) ?_; (with_reducible refine (laws_heldInt64S.calls kj47 _ _ t271 1 t281 _ ?side1 ?side2 A56.out).mono ?_); (case side1 => repeat (first | exact (Kd.R_reads' HO_7.out).2.2 | (with_reducible refine Kd.C_alloc ?_ _) | (with_reducible refine Kd.C_drewN ?_ _) | (with_reducible refine Kd.C_drew ?_))); (case side2 => exact (Kd.R_reads' HO_7.out).2.1); rintro e w' ⟨rfl, ⟨nd, rfl⟩⟩; refine ⟨_, rfl, ?_⟩; refine Stop0.out ?_))
                            refine Stop0.mk ?_
                            have H := H0_.out
                            clear H0_
                            by_cases c57 : t281 < 0
                            · rw [if_pos c57] at H
                              have c57b0 : decide (t281 < 0) = true := decide_eq_true c57
                              clear c57
                              obtain rfl := Option.some.inj H
                              go_wp2
                              go_ret
                              exact ⟨by first | rfl | (simp [errW_none, errW_some] <;> rfl) | (simp [*, errW_none, errW_some] <;> rfl), by repeat (first | (with_reducible first | exact HB.out | apply below_alloc | apply pw_below_drewN | apply below_drew1) | exact HB.out)⟩
                            · rw [if_neg c57] at H
                              have c57b0 : decide (t281 < 0) = false := decide_eq_false c57
                              clear c57
                              by_cases c58 : t281 = t270
                              · rw [if_pos c58] at H
                                have c58b0 : (t281 == t270) = true := beq_iff_eq.mpr c58
                                have c58b1 : (t281 != t270) = false := bne_eq_false_iff_eq.mpr c58
                                clear c58
                                obtain rfl := Option.some.inj H
                                go_wp2
                                go_ret
                                exact ⟨by first | rfl | (simp [errW_none, errW_some] <;> rfl) | (simp [*, errW_none, errW_some] <;> rfl), by repeat (first | (with_reducible first | exact HB.out | apply below_alloc | apply pw_below_drewN | apply below_drew1) | exact HB.out)⟩
                              · rw [if_neg c58] at H
                                have c58b0 : (t281 == t270) = false := beq_eq_false_iff_ne.mpr c58
                                have c58b1 : (t281 != t270) = true := bne_iff_ne.mpr c58
                                obtain rfl := Option.some.inj H
                                go_wp2
                                go_ret
                                exact ⟨by first | rfl | (simp [errW_none, errW_some] <;> rfl) | (simp [*, errW_none, errW_some] <;> rfl), by repeat (first | (with_reducible first | exact HB.out | apply below_alloc | apply pw_below_drewN | apply below_drew1) | exact HB.out)⟩
                    · rw [if_neg c42] at H
                      have c42b0 : (t272 == t270) = false := beq_eq_false_iff_ne.mpr c42
                      have c42b1 : (t272 != t270) = true := bne_iff_ne.mpr c42
                      obtain rfl := Option.some.inj H
                      go_wp2
                      go_ret
                      exact ⟨by first | rfl | (simp [errW_none, errW_some] <;> rfl) | (simp [*, errW_none, errW_some] <;> rfl), by repeat (first | (with_reducible first | exact HB.out | apply below_alloc | apply pw_below_drewN | apply below_drew1) | exact HB.out)⟩
          · replace c27 := Bool.eq_false_iff.mpr c27
            subst c27
            have H1 : (some false) = some r := by rw [if_neg (show ¬ (false = true) by decide)] at H; exact H
            clear H
            have H := H1
            clear H1
            obtain rfl := Option.some.inj H
            go_wp2
            go_ret
            exact ⟨by first | rfl | (simp [errW_none, errW_some] <;> rfl) | (simp [*, errW_none, errW_some] <;> rfl), by repeat (first | (with_reducible first | exact HB.out | apply below_alloc | apply pw_below_drewN | apply below_drew1) | exact HB.out)⟩

end Go.Proofs.Ytgcagmmghckbbaa.A

/- Arguments of a law opened as plain data, kind by kind: what can be read at a type is a value of its kind. -/
namespace Go.Proofs.Ytgcagmmghckbbaa.Opn
open Go.RowKit Go.Proofs.YtgcagmmghckbbaaW.PrintWords

/-- What reads at type t is a value of kind d, of which ok holds. -/
def Op {α : Type} (P : Program) (t : TypeId) (d : Kd α) (ok : α → Prop) : Prop :=
  ∀ (H : Type) (enc : TypeId × Value → H) (W : World) (fuel : Nat) (cs : List Value) (x : DataW H × List MemPlace),
    DataW.trod enc P W 0 (fun _ => true) true fuel t cs = some x → ∃ a : α, d.K W a cs ∧ ok a
/-- The same of a struct's fields from one on, which begins at cell o. -/
def OpF {α : Type} (P : Program) (o : Nat) (fs : List Field) (d : Kd α) (ok : α → Prop) : Prop :=
  ∀ (H : Type) (enc : TypeId × Value → H) (W : World) (fuel : Nat) (cs : List Value) (xs : List (DataW H × List MemPlace)), cs.length = o + d.sz →
    xs.length = fs.length → (∀ (i : Nat) (f : Field), fs[i]? = some f → DataW.trod enc P W 0 (fun _ => true) true fuel f.type ((cs.drop f.offset).take (P.cellsOf f.type)) = xs[i]?) → ∃ a : α, d.K W a (cs.drop o) ∧ ok a
def okInt (k : IntKind) (n : Int) : Prop := (Lit.int k n).wf = true
def okStr (s : ByteArray) : Prop := s.size ≤ maxLen
def okAll {α : Type} (ok : α → Prop) (l : List α) : Prop := l.length ≤ maxLen ∧ ∀ x ∈ l, ok x
def okTwo {α β : Type} (ok : α → Prop) (ok' : β → Prop) (x : α × β) : Prop := ok x.1 ∧ ok' x.2

theorem Op.int {P : Program} {t : TypeId} {k : IntKind} (ht : P.underlying t = some (.int k)) : Op P t (Kd.int k) (okInt k) := by
  intro H enc W fuel cs x h
  obtain ⟨n, rfl, _, hw⟩ := DataW.trod_int ht h
  exact ⟨n, rfl, hw⟩
theorem Op.bool {P : Program} {t : TypeId} (ht : P.underlying t = some .bool) : Op P t Kd.bool (fun _ => True) := by
  intro H enc W fuel cs x h
  obtain ⟨b, rfl, _⟩ := DataW.trod_bool ht h
  exact ⟨b, rfl, trivial⟩
theorem Op.string {P : Program} {t : TypeId} (ht : P.underlying t = some .string) : Op P t Kd.string okStr := by
  intro H enc W fuel cs x h
  obtain ⟨s, rfl, _, hs⟩ := DataW.trod_string ht h
  exact ⟨s, rfl, hs⟩
theorem Op.iso {α β : Type} {P : Program} {t : TypeId} {d : Kd α} {ok : α → Prop} (h : Op P t d ok) (f : β → α) (g : α → β) (hfg : ∀ a, f (g a) = a) : Op P t (Kd.iso d f) (fun b => ok (f b)) := by
  intro H enc W fuel cs x hx
  obtain ⟨a, ha, hok⟩ := h H enc W fuel cs x hx
  refine ⟨g a, ?_, ?_⟩
  · show d.K W (f (g a)) cs
    rw [hfg]
    exact ha
  · show ok (f (g a))
    rw [hfg]
    exact hok
theorem list_of_lt {α : Type} {p : Nat → α → Prop} : ∀ n, (∀ i, i < n → ∃ a, p i a) → ∃ l : List α, l.length = n ∧ ∀ i a, l[i]? = some a → p i a
  | 0, _ => ⟨[], rfl, fun i a h => by simp at h⟩
  | n + 1, h => by
    obtain ⟨l, hl, hp⟩ := list_of_lt n (fun i hi => h i (by omega))
    obtain ⟨a, ha⟩ := h n (by omega)
    refine ⟨l ++ [a], by simp [hl], fun i b hb => ?_⟩
    by_cases hi : i < l.length
    · rw [List.getElem?_append_left hi] at hb
      exact hp i b hb
    · have hlt : i < (l ++ [a]).length := (List.getElem?_eq_some_iff.1 hb).1
      simp at hlt
      have : i = l.length := by omega
      subst this
      have hab : a = b := by simpa using hb
      subst hab
      rw [hl]
      exact ha
theorem Op.slice {α : Type} {P : Program} {t e : TypeId} {d : Kd α} {ok : α → Prop} (ht : P.underlying t = some (.slice e)) (hc : P.cellsOf e = d.sz) (h : Op P e d ok) :
    Op P t (Kd.slice e d) (okAll ok) := by
  intro H enc W fuel cs x hx
  rcases Deep.open_slice ht hx with ⟨rfl, _⟩ | ⟨a, len, cap, m, n, D, Pl, rfl, hb, hl, hm, hmm, _, hel⟩
  · exact ⟨[], ⟨none, 0, rfl, Nat.le_refl _, rfl, by simp, fun h => absurd h (by simp)⟩, by simp [okAll]⟩
  · rw [if_pos rfl] at hmm
    subst hmm
    obtain ⟨l, hlen, hl2⟩ := list_of_lt (p := fun i (y : α) => (∃ c, c.length = d.sz ∧ d.K W y c ∧ ∀ j u, c[j]? = some u → W.cell? (a.add (i * d.sz + j)) = some u) ∧ ok y) len (fun i hi => by
      obtain ⟨cs', h1, h2⟩ := hel i (by omega)
      obtain ⟨y, hy, hok⟩ := h H enc W n cs' _ h2
      obtain ⟨_, h3, h4⟩ := World.cells?_some h1
      refine ⟨y, ⟨cs', d.K_len hy, hy, fun j u hu => ?_⟩, hok⟩
      have hj : j < P.cellsOf e := by rw [← h3]; exact (List.getElem?_eq_some_iff.1 hu).1
      have h5 := h4 j hj
      rw [← hu, ← h5, hc, Addr.add_add])
    unfold maxLen at hm
    refine ⟨l, ⟨some a, m, by rw [hlen], by omega, rfl, by omega, fun _ => ⟨a, rfl, fun j p hj => (hl2 j p hj).1⟩⟩, by unfold maxLen; omega, fun y hy => ?_⟩
    obtain ⟨i, hi, rfl⟩ := List.getElem_of_mem hy
    exact (hl2 i _ (List.getElem?_eq_getElem hi)).2
theorem OpF.one {α : Type} {P : Program} {o : Nat} {f : Field} {d : Kd α} {ok : α → Prop} (ho : f.offset = o) (hc : P.cellsOf f.type = d.sz) (h : Op P f.type d ok) : OpF P o [f] d ok := by
  intro H enc W fuel cs xs hl hn hx
  match xs, hn with
  | [y], _ =>
  have hy := hx 0 f rfl
  simp only [List.getElem?_cons_zero] at hy
  rw [ho, hc, List.take_of_length_le (by simp; omega)] at hy
  exact h H enc W fuel _ _ hy
theorem OpF.cons {α β : Type} {P : Program} {o : Nat} {f : Field} {fs : List Field} {d : Kd α} {d' : Kd β} {ok : α → Prop} {ok' : β → Prop} (ho : f.offset = o) (hc : P.cellsOf f.type = d.sz) (h : Op P f.type d ok)
    (hr : OpF P (o + d.sz) fs d' ok') : OpF P o (f :: fs) (Kd.pair d d') (okTwo ok ok') := by
  intro H enc W fuel cs xs hl hn hx
  match xs, hn with
  | y :: ys, hn =>
  have hy := hx 0 f rfl
  have hys : ∀ (i : Nat) (f : Field), fs[i]? = some f → DataW.trod enc P W 0 (fun _ => true) true fuel f.type ((cs.drop f.offset).take (P.cellsOf f.type)) = ys[i]? := fun i g hg => by simpa using hx (i + 1) g (by simpa using hg)
  simp only [List.getElem?_cons_zero] at hy
  rw [ho, hc] at hy
  obtain ⟨a, ha, hok⟩ := h H enc W fuel _ _ hy
  obtain ⟨b, hb, hok'⟩ := hr H enc W fuel cs ys (by rw [hl]; show o + (d.sz + d'.sz) = _; omega) (by simpa using hn) hys
  refine ⟨(a, b), ⟨_, _, ?_, ha, hb⟩, hok, hok'⟩
  rw [← List.drop_drop, List.take_append_drop]
theorem Op.struct {α : Type} {P : Program} {t : TypeId} {fs : Array Field} {d : Kd α} {ok : α → Prop} (ht : P.underlying t = some (.struct fs)) (hc : P.cellsOf t = d.sz) (h : OpF P 0 fs.toList d ok) : Op P t d ok := by
  intro H enc W fuel cs x hx
  obtain ⟨xs, n, _, _, hl, hn, hxs⟩ := DataW.trod_struct ht hx
  obtain ⟨a, ha, hok⟩ := h H enc W n cs xs (by omega) (by simpa using hn) (fun i f hf => hxs i f (by simpa using hf))
  exact ⟨a, by simpa using ha, hok⟩
end Go.Proofs.Ytgcagmmghckbbaa.Opn

/- The plain statement of the law FnExactFlatEdges, over numbers and lists alone, and how its arguments are opened. -/
namespace Go.Proofs.Ytgcagmmghckbbaa.A
open Go.RowKit Go.Proofs.YtgcagmmghckbbaaW.PrintWords Go.Proofs.YtgcagmmghckbbaaW.PrintLast Go.Proofs.YtgcagmmghckbbaaW.PrintMore
def ok23 (x : S23) : Prop := (Go.Proofs.Ytgcagmmghckbbaa.Opn.okTwo (Go.Proofs.Ytgcagmmghckbbaa.Opn.okInt .i64) (Go.Proofs.Ytgcagmmghckbbaa.Opn.okTwo (Go.Proofs.Ytgcagmmghckbbaa.Opn.okInt .i64) (Go.Proofs.Ytgcagmmghckbbaa.Opn.okTwo (Go.Proofs.Ytgcagmmghckbbaa.Opn.okInt .i64) (Go.Proofs.Ytgcagmmghckbbaa.Opn.okInt .i64)))) (x.f0, x.f1, x.f2, x.f3)
theorem op2 : Go.Proofs.Ytgcagmmghckbbaa.Opn.Op Try.prog 2 (Kd.int .i64) (Go.Proofs.Ytgcagmmghckbbaa.Opn.okInt .i64) := Go.Proofs.Ytgcagmmghckbbaa.Opn.Op.int Try.underlying2
theorem op23 : Go.Proofs.Ytgcagmmghckbbaa.Opn.Op Try.prog 23 k23 ok23 := Go.Proofs.Ytgcagmmghckbbaa.Opn.Op.iso (Go.Proofs.Ytgcagmmghckbbaa.Opn.Op.struct Try.underlying23 (by kernel_rfl) (Go.Proofs.Ytgcagmmghckbbaa.Opn.OpF.cons rfl (by kernel_rfl) op2 (Go.Proofs.Ytgcagmmghckbbaa.Opn.OpF.cons rfl (by kernel_rfl) op2 (Go.Proofs.Ytgcagmmghckbbaa.Opn.OpF.cons rfl (by kernel_rfl) op2 (Go.Proofs.Ytgcagmmghckbbaa.Opn.OpF.one rfl (by kernel_rfl) op2))))) (fun x : S23 => (x.f0, x.f1, x.f2, x.f3)) (fun p => ⟨p.1, p.2.1, p.2.2.1, p.2.2.2⟩) (fun _ => rfl)
theorem op30 : Go.Proofs.Ytgcagmmghckbbaa.Opn.Op Try.prog 30 (Kd.slice 23 k23) (Go.Proofs.Ytgcagmmghckbbaa.Opn.okAll ok23) := Go.Proofs.Ytgcagmmghckbbaa.Opn.Op.slice Try.underlying30 (by kernel_rfl) op23
def FnExactFlatEdges.Pure : Prop := ∀ (a0 : List (S23)), (Go.Proofs.Ytgcagmmghckbbaa.Opn.okAll ok23) a0 → ∃ k, laws_FnExactFlatEdges.f k a0 = some true
end Go.Proofs.Ytgcagmmghckbbaa.A

-- Printed by a program of this session (wip/tools/pp.py) over the kit's printer.
namespace Go.Proofs.Ytgcagmmghckbbaa.A
open Go.RowKit Go.Proofs.YtgcagmmghckbbaaW.PrintWords Go.Proofs.YtgcagmmghckbbaaW.PrintLast Go.Proofs.YtgcagmmghckbbaaW.PrintMore
attribute [local go_sem] max2_int min2_int max_two min_two max_three min_three max_four min_four   -- for this text's walks alone
set_option linter.unusedVariables false
set_option linter.unusedSimpArgs false

/-! ### spec_l30Turn: function 51 -/
def spec_l30Turn.f (a0_0 : Int) (a0_1 : Int) (a0_2 : Int) (a0_3 : Int) (a1 : Int) : Option (Int × Int × Int × Int) := (spec_l30Codes.f a0_0 a0_1 a0_2 a0_3).bind fun t113 => (if 0 ≤ (Int.tmod (wrap64 (4 - a1)) 4) then (if (Int.tmod (wrap64 (4 - a1)) 4) < (t113.length : Int) then (if 0 ≤ (Int.tmod (wrap64 (5 - a1)) 4) then (if (Int.tmod (wrap64 (5 - a1)) 4) < (t113.length : Int) then (if 0 ≤ (Int.tmod (wrap64 (6 - a1)) 4) then (if (Int.tmod (wrap64 (6 - a1)) 4) < (t113.length : Int) then (if 0 ≤ (Int.tmod (wrap64 (7 - a1)) 4) then (if (Int.tmod (wrap64 (7 - a1)) 4) < (t113.length : Int) then (some (rd t113 (Int.tmod (wrap64 (4 - a1)) 4), rd t113 (Int.tmod (wrap64 (5 - a1)) 4), rd t113 (Int.tmod (wrap64 (6 - a1)) 4), rd t113 (Int.tmod (wrap64 (7 - a1)) 4))) else (none)) else (none)) else (none)) else (none)) else (none)) else (none)) else (none)) else (none))
def spec_l30Turn.T2 : Bool × List (List Nat × List Nat) := (true, [([], []), ([], []), ([1], [1]), ([2], [2]), ([0, 3], [0, 3]), ([4], [4]), ([], []), ([], []), ([7], [7]), ([8], [8]), ([6, 9], [6, 9]), ([10], [10]), ([], []), ([], []), ([13], [13]), ([14], [14]), ([12, 15], [12, 15]), ([16], [16]), ([], []), ([], []), ([19], [19]), ([20], [20]), ([18, 21], [18, 21]), ([22], [22]), ([5, 11, 17, 23], [5, 11, 17, 23]), ([24, 0, 1, 2, 3, 4, 5, 6, 7, 8, 9, 10, 11, 12, 13, 14, 15, 16, 17, 18, 19, 20, 21, 22, 23, 24], [24])])
def spec_l30Turn.B2 : List Nat := [0, 0, 2, 6, 15, 31, 0, 0, 128, 384, 960, 1984, 0, 0, 8192, 24576, 61440, 126976, 0, 0, 524288, 1572864, 3932160, 8126464, 16777215, 33554431]
theorem spec_l30Turn.tab2 : rtab .any (opsOf Try.f51 2) = spec_l30Turn.T2 := by kernel_rfl
theorem spec_l30Turn.bits2 : waitsOk spec_l30Turn.T2.2 spec_l30Turn.B2 = true := by kernel_rfl
set_option maxHeartbeats 8000000 in
set_option maxRecDepth 100000 in
theorem spec_l30Turn.calls (a0_0 : Int) (a0_1 : Int) (a0_2 : Int) (a0_3 : Int) (a1 : Int) (r1 : Int) (r2 : Int) (r3 : Int) (r4 : Int) (w : World) (h : spec_l30Turn.f a0_0 a0_1 a0_2 a0_3 a1 = some (r1, r2, r3, r4)) :
    Calls Try.prog 51 #[.agg #[.int .i64 a0_0, .int .i64 a0_1, .int .i64 a0_2, .int .i64 a0_3], .int .i64 a1] w fun e w' => e = .returned (.agg #[.int .i64 r1, .int .i64 r2, .int .i64 r3, .int .i64 r4]) ∧ Below w.heap.size w w' := by
  have hu24 := Try.underlying24
  have HB := Aside0.mk (Below.refl w.heap.size w)
  have H : ((spec_l30Codes.f a0_0 a0_1 a0_2 a0_3).bind fun t113 => (if 0 ≤ (Int.tmod (wrap64 (4 - a1)) 4) then (if (Int.tmod (wrap64 (4 - a1)) 4) < (t113.length : Int) then (if 0 ≤ (Int.tmod (wrap64 (5 - a1)) 4) then (if (Int.tmod (wrap64 (5 - a1)) 4) < (t113.length : Int) then (if 0 ≤ (Int.tmod (wrap64 (6 - a1)) 4) then (if (Int.tmod (wrap64 (6 - a1)) 4) < (t113.length : Int) then (if 0 ≤ (Int.tmod (wrap64 (7 - a1)) 4) then (if (Int.tmod (wrap64 (7 - a1)) 4) < (t113.length : Int) then (some (rd t113 (Int.tmod (wrap64 (4 - a1)) 4), rd t113 (Int.tmod (wrap64 (5 - a1)) 4), rd t113 (Int.tmod (wrap64 (6 - a1)) 4), rd t113 (Int.tmod (wrap64 (7 - a1)) 4))) else (none)) else (none)) else (none)) else (none)) else (none)) else (none)) else (none)) else (none))) = some (r1, r2, r3, r4) := h
  clear h
  replace H := Option.bind_eq_some_iff.mp H
  obtain ⟨t113, A30, H⟩ := H
  replace H : (if 0 ≤ (Int.tmod (wrap64 (4 - a1)) 4) then (if (Int.tmod (wrap64 (4 - a1)) 4) < (t113.length : Int) then (if 0 ≤ (Int.tmod (wrap64 (5 - a1)) 4) then (if (Int.tmod (wrap64 (5 - a1)) 4) < (t113.length : Int) then (if 0 ≤ (Int.tmod (wrap64 (6 - a1)) 4) then (if (Int.tmod (wrap64 (6 - a1)) 4) < (t113.length : Int) then (if 0 ≤ (Int.tmod (wrap64 (7 - a1)) 4) then (if (Int.tmod (wrap64 (7 - a1)) 4) < (t113.length : Int) then (some (rd t113 (Int.tmod (wrap64 (4 - a1)) 4), rd t113 (Int.tmod (wrap64 (5 - a1)) 4), rd t113 (Int.tmod (wrap64 (6 - a1)) 4), rd t113 (Int.tmod (wrap64 (7 - a1)) 4))) else (none)) else (none)) else (none)) else (none)) else (none)) else (none)) else (none)) else (none)) = some (r1, r2, r3, r4) := H
  have A3 := Aside0.mk A30
  clear A30
  obtain ⟨ji4, hji4⟩ : ∃ j_ : Int, (Int.tmod (wrap64 (4 - a1)) 4) = j_ := ⟨_, rfl⟩
  replace H : (if 0 ≤ (ji4) then (if (ji4) < (t113.length : Int) then (if 0 ≤ (Int.tmod (wrap64 (5 - a1)) 4) then (if (Int.tmod (wrap64 (5 - a1)) 4) < (t113.length : Int) then (if 0 ≤ (Int.tmod (wrap64 (6 - a1)) 4) then (if (Int.tmod (wrap64 (6 - a1)) 4) < (t113.length : Int) then (if 0 ≤ (Int.tmod (wrap64 (7 - a1)) 4) then (if (Int.tmod (wrap64 (7 - a1)) 4) < (t113.length : Int) then (some (rd t113 (ji4), rd t113 (Int.tmod (wrap64 (5 - a1)) 4), rd t113 (Int.tmod (wrap64 (6 - a1)) 4), rd t113 (Int.tmod (wrap64 (7 - a1)) 4))) else (none)) else (none)) else (none)) else (none)) else (none)) else (none)) else (none)) else (none)) = some (r1, r2, r3, r4) := by first | (rw [hji4] at H; exact H) | (simp only [hji4] at H ⊢; exact H)
  (try rw [hji4] at A3)
  by_cases c5 : 0 ≤ (ji4)
  · rw [if_pos c5] at H
    have c5b0 : decide (0 ≤ (ji4)) = true := decide_eq_true c5
    clear c5
    by_cases c6 : (ji4) < (t113.length : Int)
    · rw [if_pos c6] at H
      have c6b0 : decide ((ji4) < (t113.length : Int)) = true := decide_eq_true c6
      clear c6
      obtain ⟨ji7, hji7⟩ : ∃ j_ : Int, (Int.tmod (wrap64 (5 - a1)) 4) = j_ := ⟨_, rfl⟩
      replace H : (if 0 ≤ (ji7) then (if (ji7) < (t113.length : Int) then (if 0 ≤ (Int.tmod (wrap64 (6 - a1)) 4) then (if (Int.tmod (wrap64 (6 - a1)) 4) < (t113.length : Int) then (if 0 ≤ (Int.tmod (wrap64 (7 - a1)) 4) then (if (Int.tmod (wrap64 (7 - a1)) 4) < (t113.length : Int) then (some (rd t113 (ji4), rd t113 (ji7), rd t113 (Int.tmod (wrap64 (6 - a1)) 4), rd t113 (Int.tmod (wrap64 (7 - a1)) 4))) else (none)) else (none)) else (none)) else (none)) else (none)) else (none)) = some (r1, r2, r3, r4) := by first | (rw [hji7] at H; exact H) | (simp only [hji7] at H ⊢; exact H)
      (try rw [hji7] at A3)
      by_cases c8 : 0 ≤ (ji7)
      · rw [if_pos c8] at H
        have c8b0 : decide (0 ≤ (ji7)) = true := decide_eq_true c8
        clear c8
        by_cases c9 : (ji7) < (t113.length : Int)
        · rw [if_pos c9] at H
          have c9b0 : decide ((ji7) < (t113.length : Int)) = true := decide_eq_true c9
          clear c9
          obtain ⟨ji10, hji10⟩ : ∃ j_ : Int, (Int.tmod (wrap64 (6 - a1)) 4) = j_ := ⟨_, rfl⟩
          replace H : (if 0 ≤ (ji10) then (if (ji10) < (t113.length : Int) then (if 0 ≤ (Int.tmod (wrap64 (7 - a1)) 4) then (if (Int.tmod (wrap64 (7 - a1)) 4) < (t113.length : Int) then (some (rd t113 (ji4), rd t113 (ji7), rd t113 (ji10), rd t113 (Int.tmod (wrap64 (7 - a1)) 4))) else (none)) else (none)) else (none)) else (none)) = some (r1, r2, r3, r4) := by first | (rw [hji10] at H; exact H) | (simp only [hji10] at H ⊢; exact H)
          (try rw [hji10] at A3)
          by_cases c11 : 0 ≤ (ji10)
          · rw [if_pos c11] at H
            have c11b0 : decide (0 ≤ (ji10)) = true := decide_eq_true c11
            clear c11
            by_cases c12 : (ji10) < (t113.length : Int)
            · rw [if_pos c12] at H
              have c12b0 : decide ((ji10) < (t113.length : Int)) = true := decide_eq_true c12
              clear c12
              obtain ⟨ji13, hji13⟩ : ∃ j_ : Int, (Int.tmod (wrap64 (7 - a1)) 4) = j_ := ⟨_, rfl⟩
              replace H : (if 0 ≤ (ji13) then (if (ji13) < (t113.length : Int) then (some (rd t113 (ji4), rd t113 (ji7), rd t113 (ji10), rd t113 (ji13))) else (none)) else (none)) = some (r1, r2, r3, r4) := by first | (rw [hji13] at H; exact H) | (simp only [hji13] at H ⊢; exact H)
              (try rw [hji13] at A3)
              by_cases c14 : 0 ≤ (ji13)
              · rw [if_pos c14] at H
                have c14b0 : decide (0 ≤ (ji13)) = true := decide_eq_true c14
                clear c14
                by_cases c15 : (ji13) < (t113.length : Int)
                · rw [if_pos c15] at H
                  have c15b0 : decide ((ji13) < (t113.length : Int)) = true := decide_eq_true c15
                  clear c15
                  simp only [Option.some.injEq, Prod.mk.injEq] at H
                  obtain ⟨rfl, rfl, rfl, rfl⟩ := H
                  go_enter Try.func51, Try.ntmps51
                  try go_wp2_with (first | ((with_reducible refine gate_dst (N := 2) rfl ?_); refine box_event ?hg (N := 2) ?hd (cs := #[.int .i64 a0_0, .int .i64 a0_1, .int .i64 a0_2, .int .i64 a0_3]) (t := 24) ?hr ?_; (case hd => rfl); (case hg => rfl); (case hr => first | (go_simp; done) | (go_simp; rfl)); intro gb111 hg w16 hbox hb; have n0_ := Aside0.mk (below_step (by repeat (first | (with_reducible first | exact HB.out | apply below_alloc | apply pw_below_drewN | apply below_drew1) | exact HB.out)) hb); have n1_ := Aside0.mk (hbox); have n2_ := Aside0.mk ((by rw [hg]; exact (below_size (by repeat (first | (with_reducible first | exact HB.out | apply below_alloc | apply pw_below_drewN | apply below_drew1) | exact HB.out))) : w.heap.size ≤ gb111)); have n3_ := Aside0.mk ((by rw [hg]; exact (below_size (by repeat (first | (with_reducible first | exact HB.out | apply below_alloc | apply pw_below_drewN | apply below_drew1) | exact HB.out))) : w.heap.size ≤ gb111)); clear HB; have HB := n0_; have BK111 := n1_; have GW111 := n2_; have GE111 := n3_; clear n0_ n1_ n2_ n3_; clear hb hbox hg) | ((with_reducible refine gate_dst (N := 4) rfl ?_); refine box_event ?hg (N := 4) ?hd (cs := #[.int .i64 0, .int .i64 0, .int .i64 0, .int .i64 0]) (t := 24) ?hr ?_; (case hd => rfl); (case hg => rfl); (case hr => first | (go_simp; done) | (go_simp; rfl)); intro gb112 hg w17 hbox hb; have n0_ := Aside0.mk (blk_below (g := gb111) (o := .cells #[.int .i64 a0_0, .int .i64 a0_1, .int .i64 a0_2, .int .i64 a0_3] 24 (0, 0)) (by (with_reducible repeat (first | refine blk_drewN ?_ _ | refine blk_drew ?_ | refine blk_alloc ?_ _)); exact BK111.out) hb); have n1_ := Aside0.mk (below_step (by repeat (first | (with_reducible first | exact HB.out | apply below_alloc | apply pw_below_drewN | apply below_drew1 | refine below_set ?_ GE111.out) | exact HB.out)) hb); have n2_ := Aside0.mk (hbox); have n3_ := Aside0.mk ((by rw [hg]; exact (below_size (by repeat (first | (with_reducible first | exact HB.out | apply below_alloc | apply pw_below_drewN | apply below_drew1 | refine below_set ?_ GE111.out) | exact HB.out))) : w.heap.size ≤ gb112)); have n4_ := Aside0.mk ((by rw [hg]; exact (below_size (by repeat (first | (with_reducible first | exact HB.out | apply below_alloc | apply pw_below_drewN | apply below_drew1 | refine below_set ?_ GE111.out) | exact HB.out))) : w.heap.size ≤ gb112)); have n5_ := Aside0.mk ((by rw [hg]; exact Nat.ne_of_lt (blk_lt (g := gb111) (o := .cells #[.int .i64 a0_0, .int .i64 a0_1, .int .i64 a0_2, .int .i64 a0_3] 24 (0, 0)) (by (with_reducible repeat (first | refine blk_drewN ?_ _ | refine blk_drew ?_ | refine blk_alloc ?_ _)); exact BK111.out)) : gb111 ≠ gb112)); have n6_ := Aside0.mk ((by rw [hg]; exact Nat.ne_of_gt (blk_lt (g := gb111) (o := .cells #[.int .i64 a0_0, .int .i64 a0_1, .int .i64 a0_2, .int .i64 a0_3] 24 (0, 0)) (by (with_reducible repeat (first | refine blk_drewN ?_ _ | refine blk_drew ?_ | refine blk_alloc ?_ _)); exact BK111.out)) : gb112 ≠ gb111)); clear BK111; clear HB; have BK111 := n0_; have HB := n1_; have BK112 := n2_; have GW112 := n3_; have GE112 := n4_; have NB111_112 := n5_; have NB112_111 := n6_; clear n0_ n1_ n2_ n3_ n4_ n5_ n6_; clear hb hbox hg; have hnb18 := NB111_112.out; have hnc18 := NB112_111.out; have hcz19_0 : w17.cell? ⟨gb111, 0, none⟩ = some (.int .i64 a0_0) := (blk_cell BK111.out 0).trans rfl; have hcz19_1 : w17.cell? ⟨gb111, 1, none⟩ = some (.int .i64 a0_1) := (blk_cell BK111.out 1).trans rfl; have hcz19_2 : w17.cell? ⟨gb111, 2, none⟩ = some (.int .i64 a0_2) := (blk_cell BK111.out 2).trans rfl; have hcz19_3 : w17.cell? ⟨gb111, 3, none⟩ = some (.int .i64 a0_3) := (blk_cell BK111.out 3).trans rfl; have hfz19_0 := blk_frozen BK111.out 0; have hfz19_1 := blk_frozen BK111.out 1; have hfz19_2 := blk_frozen BK111.out 2; have hfz19_3 := blk_frozen BK111.out 3) | ((with_reducible refine gate_callee (f := 57) rfl ?_); refine goesL_ (some 7) rfl rfl Try.func57 (by kernel_rfl) rfl #[.agg #[.int .i64 a0_0, .int .i64 a0_1, .int .i64 a0_2, .int .i64 a0_3]] rfl (by (try simp only [List.map_toArray, List.map_cons, List.map_nil]); first | done | rfl | (simp only [List.length_drop, List.length_take]; rfl)) ?_; (with_reducible refine (spec_l30Codes.calls a0_0 a0_1 a0_2 a0_3 t113 _ A3.out).mono ?_); rintro e w20 ⟨v114, rfl, ho0, hb⟩; refine ⟨_, rfl, ?_⟩; have n0_ := Aside0.mk (Kd.R_lower ho0 (below_size (by repeat (first | (with_reducible first | exact HB.out | apply below_alloc | apply pw_below_drewN | apply below_drew1 | refine below_set ?_ GE111.out | refine below_set ?_ GE112.out) | exact HB.out)))); have n1_ := Aside0.mk (blk_below (g := gb111) (o := .cells #[.int .i64 a0_0, .int .i64 a0_1, .int .i64 a0_2, .int .i64 a0_3] 24 (0, 0)) (by (with_reducible repeat (first | refine blk_drewN ?_ _ | refine blk_drew ?_ | refine blk_alloc ?_ _)); exact BK111.out) hb); have n2_ := Aside0.mk (blk_below (g := gb112) (o := .cells #[.int .i64 0, .int .i64 0, .int .i64 0, .int .i64 0] 24 (0, 0)) (by (with_reducible repeat (first | refine blk_drewN ?_ _ | refine blk_drew ?_ | refine blk_alloc ?_ _)); exact BK112.out) hb); have n3_ := Aside0.mk (below_step (by repeat (first | (with_reducible first | exact HB.out | apply below_alloc | apply pw_below_drewN | apply below_drew1 | refine below_set ?_ GE111.out | refine below_set ?_ GE112.out) | exact HB.out)) hb); clear BK111; clear BK112; clear HB; have HO115 := n0_; have BK111 := n1_; have BK112 := n2_; have HB := n3_; clear n0_ n1_ n2_ n3_; (try clear hb); (try clear hb2); (try clear hk); (try clear hi); (try clear ho0)))
                  have n0_ := Aside0.mk (Kd.R_drew HO115.out)
                  have n1_ := Aside0.mk (blk_drew BK111.out)
                  have n2_ := Aside0.mk (blk_drew BK112.out)
                  have n3_ := Aside0.mk (below_drew1 HB.out)
                  clear HO115
                  clear BK111
                  clear BK112
                  clear HB
                  have HO115 := n0_
                  have BK111 := n1_
                  have BK112 := n2_
                  have HB := n3_
                  clear n0_ n1_ n2_ n3_
                  obtain ⟨Ao22, co22, eo22⟩ := Kd.R_slice HO115.out
                  (first | subst eo22 | (injection eo22 with f1_ f2_ f3_; have f4_ := f1_.symm; have f5_ := f3_.symm; clear f1_ f2_ f3_; subst f4_; subst f5_))
                  have p116 : 0 ≤ ((ji4) : Int) := of_decide_eq_true (by first | (with_reducible assumption) | assumption)
                  have q116 : (ji4) < (t113.length : Int) := of_decide_eq_true (by first | (with_reducible assumption) | assumption)
                  obtain ⟨ad116, e116, hx116_0⟩ := Kd.at_int (Kd.R_reads' HO115.out).2.2 (ji4) p116 q116
                  cases e116
                  replace p116 := eq_true p116
                  replace q116 := eq_true q116
                  have p117 : 0 ≤ ((ji7) : Int) := of_decide_eq_true (by first | (with_reducible assumption) | assumption)
                  have q117 : (ji7) < (t113.length : Int) := of_decide_eq_true (by first | (with_reducible assumption) | assumption)
                  obtain ⟨ad117, e117, hx117_0⟩ := Kd.at_int (Kd.R_reads' HO115.out).2.2 (ji7) p117 q117
                  obtain rfl : ad116 = ad117 := (by injection e117)
                  replace p117 := eq_true p117
                  replace q117 := eq_true q117
                  have p118 : 0 ≤ ((ji10) : Int) := of_decide_eq_true (by first | (with_reducible assumption) | assumption)
                  have q118 : (ji10) < (t113.length : Int) := of_decide_eq_true (by first | (with_reducible assumption) | assumption)
                  obtain ⟨ad118, e118, hx118_0⟩ := Kd.at_int (Kd.R_reads' HO115.out).2.2 (ji10) p118 q118
                  obtain rfl : ad116 = ad118 := (by injection e118)
                  replace p118 := eq_true p118
                  replace q118 := eq_true q118
                  have p119 : 0 ≤ ((ji13) : Int) := of_decide_eq_true (by first | (with_reducible assumption) | assumption)
                  have q119 : (ji13) < (t113.length : Int) := of_decide_eq_true (by first | (with_reducible assumption) | assumption)
                  obtain ⟨ad119, e119, hx119_0⟩ := Kd.at_int (Kd.R_reads' HO115.out).2.2 (ji13) p119 q119
                  obtain rfl : ad116 = ad119 := (by injection e119)
                  replace p119 := eq_true p119
                  replace q119 := eq_true q119
                  refine start_ (n := 26) (S := fun w' => w'.cell? (ad116.add ((ji4)).toNat) = some (.int .i64 (rd t113 (ji4))) ∧ w'.cell? (ad116.add ((ji7)).toNat) = some (.int .i64 (rd t113 (ji7))) ∧ w'.cell? (ad116.add ((ji10)).toNat) = some (.int .i64 (rd t113 (ji10))) ∧ w'.cell? (ad116.add ((ji13)).toNat) = some (.int .i64 (rd t113 (ji13)))) (ds := []) #[false, false, false, false, false, false, false, false, false, false, false, false, false, false, false, false, false, false, false, false, false, false, false, false, false, false] (by kernel_rfl) rfl rfl ⟨hx116_0, hx117_0, hx118_0, hx119_0⟩ (fun hHeld => ?_); refine with_tabW spec_l30Turn.tab2 spec_l30Turn.bits2 (fun HT_ HW_ => ?_)
                  generalize w20.drew = w21 at HO115 BK111 BK112 HB hx116_0 hx117_0 hx118_0 hx119_0 hHeld ⊢
                  refine pure_ (i := 0) (N := some 8) (v := ?_) (a' := ?_) #[true, false, false, false, false, false, false, false, false, false, false, false, false, false, false, false, false, false, false, false, false, false, false, false, false, false] rfl rfl (any_of HT_.out (by kernel_rfl)) (fun _ _ _ h => h) (Or.inl ⟨by rfl, ?_⟩) ?_ ?_
                  rotate_left
                  · intro w'
                    go_simp
                    with_reducible rfl
                  rotate_left
                  · simp only [Act.put, List.setIfInBounds_toArray, List.set_cons_zero, List.set_cons_succ, i64_w, i32_w]
                    rfl
                  refine pure_ (i := 1) (N := some 9) (v := ?_) (a' := ?_) #[true, true, false, false, false, false, false, false, false, false, false, false, false, false, false, false, false, false, false, false, false, false, false, false, false, false] rfl rfl (any_of HT_.out (by kernel_rfl)) (fun _ _ _ h => h) (Or.inl ⟨by rfl, ?_⟩) ?_ ?_
                  rotate_left
                  · intro w'
                    go_simp
                    with_reducible rfl
                  rotate_left
                  · simp only [Act.put, List.setIfInBounds_toArray, List.set_cons_zero, List.set_cons_succ, i64_w, i32_w]
                    rfl
                  refine pure_ (i := 2) (N := some 10) (v := ?_) (a' := ?_) #[true, true, true, false, false, false, false, false, false, false, false, false, false, false, false, false, false, false, false, false, false, false, false, false, false, false] rfl rfl (any_of HT_.out (by kernel_rfl)) (fun _ _ _ h => h) (Or.inl ⟨by rfl, ?_⟩) ?_ ?_
                  rotate_left
                  · intro w'
                    go_simp
                    with_reducible rfl
                  rotate_left
                  · simp only [Act.put, List.setIfInBounds_toArray, List.set_cons_zero, List.set_cons_succ, i64_w, i32_w]
                    rfl
                  refine pure_ (i := 3) (N := some 11) (v := ?_) (a' := ?_) #[true, true, true, true, false, false, false, false, false, false, false, false, false, false, false, false, false, false, false, false, false, false, false, false, false, false] rfl rfl (any_of HT_.out (by kernel_rfl)) (fun _ _ _ h => h) (Or.inl ⟨by rfl, ?_⟩) ?_ ?_
                  rotate_left
                  · intro w'
                    go_simp
                    with_reducible rfl
                  rotate_left
                  · simp only [Act.put, List.setIfInBounds_toArray, List.set_cons_zero, List.set_cons_succ, i64_w, i32_w]
                    rfl
                  refine pure_ (i := 4) (N := some 12) (v := ?_) (a' := ?_) #[true, true, true, true, true, false, false, false, false, false, false, false, false, false, false, false, false, false, false, false, false, false, false, false, false, false] rfl rfl (any_of HT_.out (by kernel_rfl)) (fun _ _ _ h => h) (Or.inl ⟨by rfl, ?_⟩) ?_ ?_
                  rotate_left
                  · intro w'
                    go_simp
                    with_reducible rfl
                  rotate_left
                  · simp only [Act.put, List.setIfInBounds_toArray, List.set_cons_zero, List.set_cons_succ, i64_w, i32_w]
                    rfl
                  refine pure_ (i := 6) (N := some 14) (v := ?_) (a' := ?_) #[true, true, true, true, true, false, true, false, false, false, false, false, false, false, false, false, false, false, false, false, false, false, false, false, false, false] rfl rfl (any_of HT_.out (by kernel_rfl)) (fun _ _ _ h => h) (Or.inl ⟨by rfl, ?_⟩) ?_ ?_
                  rotate_left
                  · intro w'
                    go_simp
                    with_reducible rfl
                  rotate_left
                  · simp only [Act.put, List.setIfInBounds_toArray, List.set_cons_zero, List.set_cons_succ, i64_w, i32_w]
                    rfl
                  refine pure_ (i := 7) (N := some 15) (v := ?_) (a' := ?_) #[true, true, true, true, true, false, true, true, false, false, false, false, false, false, false, false, false, false, false, false, false, false, false, false, false, false] rfl rfl (any_of HT_.out (by kernel_rfl)) (fun _ _ _ h => h) (Or.inl ⟨by rfl, ?_⟩) ?_ ?_
                  rotate_left
                  · intro w'
                    go_simp
                    with_reducible rfl
                  rotate_left
                  · simp only [Act.put, List.setIfInBounds_toArray, List.set_cons_zero, List.set_cons_succ, i64_w, i32_w]
                    rfl
                  refine pure_ (i := 8) (N := some 16) (v := ?_) (a' := ?_) #[true, true, true, true, true, false, true, true, true, false, false, false, false, false, false, false, false, false, false, false, false, false, false, false, false, false] rfl rfl (any_of HT_.out (by kernel_rfl)) (fun _ _ _ h => h) (Or.inl ⟨by rfl, ?_⟩) ?_ ?_
                  rotate_left
                  · intro w'
                    go_simp
                    with_reducible rfl
                  rotate_left
                  · simp only [Act.put, List.setIfInBounds_toArray, List.set_cons_zero, List.set_cons_succ, i64_w, i32_w]
                    rfl
                  refine pure_ (i := 9) (N := some 17) (v := ?_) (a' := ?_) #[true, true, true, true, true, false, true, true, true, true, false, false, false, false, false, false, false, false, false, false, false, false, false, false, false, false] rfl rfl (any_of HT_.out (by kernel_rfl)) (fun _ _ _ h => h) (Or.inl ⟨by rfl, ?_⟩) ?_ ?_
                  rotate_left
                  · intro w'
                    go_simp
                    with_reducible rfl
                  rotate_left
                  · simp only [Act.put, List.setIfInBounds_toArray, List.set_cons_zero, List.set_cons_succ, i64_w, i32_w]
                    rfl
                  refine pure_ (i := 10) (N := some 18) (v := ?_) (a' := ?_) #[true, true, true, true, true, false, true, true, true, true, true, false, false, false, false, false, false, false, false, false, false, false, false, false, false, false] rfl rfl (any_of HT_.out (by kernel_rfl)) (fun _ _ _ h => h) (Or.inl ⟨by rfl, ?_⟩) ?_ ?_
                  rotate_left
                  · intro w'
                    go_simp
                    with_reducible rfl
                  rotate_left
                  · simp only [Act.put, List.setIfInBounds_toArray, List.set_cons_zero, List.set_cons_succ, i64_w, i32_w]
                    rfl
                  refine pure_ (i := 12) (N := some 20) (v := ?_) (a' := ?_) #[true, true, true, true, true, false, true, true, true, true, true, false, true, false, false, false, false, false, false, false, false, false, false, false, false, false] rfl rfl (any_of HT_.out (by kernel_rfl)) (fun _ _ _ h => h) (Or.inl ⟨by rfl, ?_⟩) ?_ ?_
                  rotate_left
                  · intro w'
                    go_simp
                    with_reducible rfl
                  rotate_left
                  · simp only [Act.put, List.setIfInBounds_toArray, List.set_cons_zero, List.set_cons_succ, i64_w, i32_w]
                    rfl
                  refine pure_ (i := 13) (N := some 21) (v := ?_) (a' := ?_) #[true, true, true, true, true, false, true, true, true, true, true, false, true, true, false, false, false, false, false, false, false, false, false, false, false, false] rfl rfl (any_of HT_.out (by kernel_rfl)) (fun _ _ _ h => h) (Or.inl ⟨by rfl, ?_⟩) ?_ ?_
                  rotate_left
                  · intro w'
                    go_simp
                    with_reducible rfl
                  rotate_left
                  · simp only [Act.put, List.setIfInBounds_toArray, List.set_cons_zero, List.set_cons_succ, i64_w, i32_w]
                    rfl
                  refine pure_ (i := 14) (N := some 22) (v := ?_) (a' := ?_) #[true, true, true, true, true, false, true, true, true, true, true, false, true, true, true, false, false, false, false, false, false, false, false, false, false, false] rfl rfl (any_of HT_.out (by kernel_rfl)) (fun _ _ _ h => h) (Or.inl ⟨by rfl, ?_⟩) ?_ ?_
                  rotate_left
                  · intro w'
                    go_simp
                    with_reducible rfl
                  rotate_left
                  · simp only [Act.put, List.setIfInBounds_toArray, List.set_cons_zero, List.set_cons_succ, i64_w, i32_w]
                    rfl
                  refine pure_ (i := 15) (N := some 23) (v := ?_) (a' := ?_) #[true, true, true, true, true, false, true, true, true, true, true, false, true, true, true, true, false, false, false, false, false, false, false, false, false, false] rfl rfl (any_of HT_.out (by kernel_rfl)) (fun _ _ _ h => h) (Or.inl ⟨by rfl, ?_⟩) ?_ ?_
                  rotate_left
                  · intro w'
                    go_simp
                    with_reducible rfl
                  rotate_left
                  · simp only [Act.put, List.setIfInBounds_toArray, List.set_cons_zero, List.set_cons_succ, i64_w, i32_w]
                    rfl
                  refine pure_ (i := 16) (N := some 24) (v := ?_) (a' := ?_) #[true, true, true, true, true, false, true, true, true, true, true, false, true, true, true, true, true, false, false, false, false, false, false, false, false, false] rfl rfl (any_of HT_.out (by kernel_rfl)) (fun _ _ _ h => h) (Or.inl ⟨by rfl, ?_⟩) ?_ ?_
                  rotate_left
                  · intro w'
                    go_simp
                    with_reducible rfl
                  rotate_left
                  · simp only [Act.put, List.setIfInBounds_toArray, List.set_cons_zero, List.set_cons_succ, i64_w, i32_w]
                    rfl
                  refine pure_ (i := 18) (N := some 26) (v := ?_) (a' := ?_) #[true, true, true, true, true, false, true, true, true, true, true, false, true, true, true, true, true, false, true, false, false, false, false, false, false, false] rfl rfl (any_of HT_.out (by kernel_rfl)) (fun _ _ _ h => h) (Or.inl ⟨by rfl, ?_⟩) ?_ ?_
                  rotate_left
                  · intro w'
                    go_simp
                    with_reducible rfl
                  rotate_left
                  · simp only [Act.put, List.setIfInBounds_toArray, List.set_cons_zero, List.set_cons_succ, i64_w, i32_w]
                    rfl
                  refine pure_ (i := 19) (N := some 27) (v := ?_) (a' := ?_) #[true, true, true, true, true, false, true, true, true, true, true, false, true, true, true, true, true, false, true, true, false, false, false, false, false, false] rfl rfl (any_of HT_.out (by kernel_rfl)) (fun _ _ _ h => h) (Or.inl ⟨by rfl, ?_⟩) ?_ ?_
                  rotate_left
                  · intro w'
                    go_simp
                    with_reducible rfl
                  rotate_left
                  · simp only [Act.put, List.setIfInBounds_toArray, List.set_cons_zero, List.set_cons_succ, i64_w, i32_w]
                    rfl
                  refine pure_ (i := 20) (N := some 28) (v := ?_) (a' := ?_) #[true, true, true, true, true, false, true, true, true, true, true, false, true, true, true, true, true, false, true, true, true, false, false, false, false, false] rfl rfl (any_of HT_.out (by kernel_rfl)) (fun _ _ _ h => h) (Or.inl ⟨by rfl, ?_⟩) ?_ ?_
                  rotate_left
                  · intro w'
                    go_simp
                    with_reducible rfl
                  rotate_left
                  · simp only [Act.put, List.setIfInBounds_toArray, List.set_cons_zero, List.set_cons_succ, i64_w, i32_w]
                    rfl
                  refine pure_ (i := 21) (N := some 29) (v := ?_) (a' := ?_) #[true, true, true, true, true, false, true, true, true, true, true, false, true, true, true, true, true, false, true, true, true, true, false, false, false, false] rfl rfl (any_of HT_.out (by kernel_rfl)) (fun _ _ _ h => h) (Or.inl ⟨by rfl, ?_⟩) ?_ ?_
                  rotate_left
                  · intro w'
                    go_simp
                    with_reducible rfl
                  rotate_left
                  · simp only [Act.put, List.setIfInBounds_toArray, List.set_cons_zero, List.set_cons_succ, i64_w, i32_w]
                    rfl
                  refine pure_ (i := 22) (N := some 30) (v := ?_) (a' := ?_) #[true, true, true, true, true, false, true, true, true, true, true, false, true, true, true, true, true, false, true, true, true, true, true, false, false, false] rfl rfl (any_of HT_.out (by kernel_rfl)) (fun _ _ _ h => h) (Or.inl ⟨by rfl, ?_⟩) ?_ ?_
                  rotate_left
                  · intro w'
                    go_simp
                    with_reducible rfl
                  rotate_left
                  · simp only [Act.put, List.setIfInBounds_toArray, List.set_cons_zero, List.set_cons_succ, i64_w, i32_w]
                    rfl
                  refine take_ (i := 5) (N := some 13) (v := ?_) (a' := ?_) #[true, true, true, true, true, true, true, true, true, true, true, false, true, true, true, true, true, false, true, true, true, true, true, false, false, false] rfl rfl (take_ofW HT_.out HW_.out (by kernel_rfl)) (fun _ _ _ h => h) (Or.inl ⟨by rfl, ?_⟩) hHeld ?_ ?_
                  rotate_left
                  · rintro w' ⟨s0, s1, s2, s3⟩
                    go_simp
                    with_reducible rfl
                  rotate_left
                  · simp only [Act.put, List.setIfInBounds_toArray, List.set_cons_zero, List.set_cons_succ, i64_w, i32_w]
                    rfl
                  refine take_ (i := 11) (N := some 19) (v := ?_) (a' := ?_) #[true, true, true, true, true, true, true, true, true, true, true, true, true, true, true, true, true, false, true, true, true, true, true, false, false, false] rfl rfl (take_ofW HT_.out HW_.out (by kernel_rfl)) (fun _ _ _ h => h) (Or.inl ⟨by rfl, ?_⟩) hHeld ?_ ?_
                  rotate_left
                  · rintro w' ⟨s0, s1, s2, s3⟩
                    go_simp
                    with_reducible rfl
                  rotate_left
                  · simp only [Act.put, List.setIfInBounds_toArray, List.set_cons_zero, List.set_cons_succ, i64_w, i32_w]
                    rfl
                  refine take_ (i := 17) (N := some 25) (v := ?_) (a' := ?_) #[true, true, true, true, true, true, true, true, true, true, true, true, true, true, true, true, true, true, true, true, true, true, true, false, false, false] rfl rfl (take_ofW HT_.out HW_.out (by kernel_rfl)) (fun _ _ _ h => h) (Or.inl ⟨by rfl, ?_⟩) hHeld ?_ ?_
                  rotate_left
                  · rintro w' ⟨s0, s1, s2, s3⟩
                    go_simp
                    with_reducible rfl
                  rotate_left
                  · simp only [Act.put, List.setIfInBounds_toArray, List.set_cons_zero, List.set_cons_succ, i64_w, i32_w]
                    rfl
                  refine take_ (i := 23) (N := some 31) (v := ?_) (a' := ?_) #[true, true, true, true, true, true, true, true, true, true, true, true, true, true, true, true, true, true, true, true, true, true, true, true, false, false] rfl rfl (take_ofW HT_.out HW_.out (by kernel_rfl)) (fun _ _ _ h => h) (Or.inl ⟨by rfl, ?_⟩) hHeld ?_ ?_
                  rotate_left
                  · rintro w' ⟨s0, s1, s2, s3⟩
                    go_simp
                    with_reducible rfl
                  rotate_left
                  · simp only [Act.put, List.setIfInBounds_toArray, List.set_cons_zero, List.set_cons_succ, i64_w, i32_w]
                    rfl
                  refine pure_ (i := 24) (N := some 32) (v := ?_) (a' := ?_) #[true, true, true, true, true, true, true, true, true, true, true, true, true, true, true, true, true, true, true, true, true, true, true, true, true, false] rfl rfl (any_of HT_.out (by kernel_rfl)) (fun _ _ _ h => h) (Or.inl ⟨by rfl, ?_⟩) ?_ ?_
                  rotate_left
                  · intro w'
                    go_simp
                    with_reducible rfl
                  rotate_left
                  · simp only [Act.put, List.setIfInBounds_toArray, List.set_cons_zero, List.set_cons_succ, i64_w, i32_w]
                    rfl
                  refine one_ (i := 25) (N := none) #[true, true, true, true, true, true, true, true, true, true, true, true, true, true, true, true, true, true, true, true, true, true, true, true, true, true] rfl rfl (one_of HT_.out (by kernel_rfl)) (by decide) (fun K hK => ?_)
                  have hs23 : w21.cell? ⟨gb112, 0, none⟩ = some (.int .i64 0) := (blk_cell BK112.out 0).trans rfl
                  have hfs23 := blk_frozen BK112.out 0
                  have hns23_0 := NB111_112.out
                  have hms23_0 := NB112_111.out
                  have hs24 : w21.cell? ⟨gb112, 1, none⟩ = some (.int .i64 0) := (blk_cell BK112.out 1).trans rfl
                  have hfs24 := blk_frozen BK112.out 1
                  have hns24_0 := NB111_112.out
                  have hms24_0 := NB112_111.out
                  have hs25 : w21.cell? ⟨gb112, 2, none⟩ = some (.int .i64 0) := (blk_cell BK112.out 2).trans rfl
                  have hfs25 := blk_frozen BK112.out 2
                  have hns25_0 := NB111_112.out
                  have hms25_0 := NB112_111.out
                  have hs26 : w21.cell? ⟨gb112, 3, none⟩ = some (.int .i64 0) := (blk_cell BK112.out 3).trans rfl
                  have hfs26 := blk_frozen BK112.out 3
                  have hns26_0 := NB111_112.out
                  have hms26_0 := NB112_111.out
                  refine skip_ (w1 := ?_) (by rfl) rfl ?_ ?_
                  rotate_left
                  · go_simp
                    rfl
                  refine hK.out _ _ ⟨((cell_far (p := ⟨gb112, _, none⟩) (by first | exact Kd.own_blk (Kd.R_ne HO115.out BK112.out (by decide)) | (rw [add_block]; exact Kd.own_blk (Kd.R_ne HO115.out BK112.out (by decide))) | (show (Addr.add _ _).block ≠ _; rw [add_block]; exact Kd.own_blk (Kd.R_ne HO115.out BK112.out (by decide))) | (dsimp only; exact Kd.own_blk (Kd.R_ne HO115.out BK112.out (by decide)))) _).trans (((cell_far (p := ⟨gb112, _, none⟩) (by first | exact Kd.own_blk (Kd.R_ne HO115.out BK112.out (by decide)) | (rw [add_block]; exact Kd.own_blk (Kd.R_ne HO115.out BK112.out (by decide))) | (show (Addr.add _ _).block ≠ _; rw [add_block]; exact Kd.own_blk (Kd.R_ne HO115.out BK112.out (by decide))) | (dsimp only; exact Kd.own_blk (Kd.R_ne HO115.out BK112.out (by decide)))) _).trans (((cell_far (p := ⟨gb112, _, none⟩) (by first | exact Kd.own_blk (Kd.R_ne HO115.out BK112.out (by decide)) | (rw [add_block]; exact Kd.own_blk (Kd.R_ne HO115.out BK112.out (by decide))) | (show (Addr.add _ _).block ≠ _; rw [add_block]; exact Kd.own_blk (Kd.R_ne HO115.out BK112.out (by decide))) | (dsimp only; exact Kd.own_blk (Kd.R_ne HO115.out BK112.out (by decide)))) _).trans (((cell_far (p := ⟨gb112, _, none⟩) (by first | exact Kd.own_blk (Kd.R_ne HO115.out BK112.out (by decide)) | (rw [add_block]; exact Kd.own_blk (Kd.R_ne HO115.out BK112.out (by decide))) | (show (Addr.add _ _).block ≠ _; rw [add_block]; exact Kd.own_blk (Kd.R_ne HO115.out BK112.out (by decide))) | (dsimp only; exact Kd.own_blk (Kd.R_ne HO115.out BK112.out (by decide)))) _).trans (hHeld.1)))))))), ((cell_far (p := ⟨gb112, _, none⟩) (by first | exact Kd.own_blk (Kd.R_ne HO115.out BK112.out (by decide)) | (rw [add_block]; exact Kd.own_blk (Kd.R_ne HO115.out BK112.out (by decide))) | (show (Addr.add _ _).block ≠ _; rw [add_block]; exact Kd.own_blk (Kd.R_ne HO115.out BK112.out (by decide))) | (dsimp only; exact Kd.own_blk (Kd.R_ne HO115.out BK112.out (by decide)))) _).trans (((cell_far (p := ⟨gb112, _, none⟩) (by first | exact Kd.own_blk (Kd.R_ne HO115.out BK112.out (by decide)) | (rw [add_block]; exact Kd.own_blk (Kd.R_ne HO115.out BK112.out (by decide))) | (show (Addr.add _ _).block ≠ _; rw [add_block]; exact Kd.own_blk (Kd.R_ne HO115.out BK112.out (by decide))) | (dsimp only; exact Kd.own_blk (Kd.R_ne HO115.out BK112.out (by decide)))) _).trans (((cell_far (p := ⟨gb112, _, none⟩) (by first | exact Kd.own_blk (Kd.R_ne HO115.out BK112.out (by decide)) | (rw [add_block]; exact Kd.own_blk (Kd.R_ne HO115.out BK112.out (by decide))) | (show (Addr.add _ _).block ≠ _; rw [add_block]; exact Kd.own_blk (Kd.R_ne HO115.out BK112.out (by decide))) | (dsimp only; exact Kd.own_blk (Kd.R_ne HO115.out BK112.out (by decide)))) _).trans (((cell_far (p := ⟨gb112, _, none⟩) (by first | exact Kd.own_blk (Kd.R_ne HO115.out BK112.out (by decide)) | (rw [add_block]; exact Kd.own_blk (Kd.R_ne HO115.out BK112.out (by decide))) | (show (Addr.add _ _).block ≠ _; rw [add_block]; exact Kd.own_blk (Kd.R_ne HO115.out BK112.out (by decide))) | (dsimp only; exact Kd.own_blk (Kd.R_ne HO115.out BK112.out (by decide)))) _).trans (hHeld.2.1)))))))), ((cell_far (p := ⟨gb112, _, none⟩) (by first | exact Kd.own_blk (Kd.R_ne HO115.out BK112.out (by decide)) | (rw [add_block]; exact Kd.own_blk (Kd.R_ne HO115.out BK112.out (by decide))) | (show (Addr.add _ _).block ≠ _; rw [add_block]; exact Kd.own_blk (Kd.R_ne HO115.out BK112.out (by decide))) | (dsimp only; exact Kd.own_blk (Kd.R_ne HO115.out BK112.out (by decide)))) _).trans (((cell_far (p := ⟨gb112, _, none⟩) (by first | exact Kd.own_blk (Kd.R_ne HO115.out BK112.out (by decide)) | (rw [add_block]; exact Kd.own_blk (Kd.R_ne HO115.out BK112.out (by decide))) | (show (Addr.add _ _).block ≠ _; rw [add_block]; exact Kd.own_blk (Kd.R_ne HO115.out BK112.out (by decide))) | (dsimp only; exact Kd.own_blk (Kd.R_ne HO115.out BK112.out (by decide)))) _).trans (((cell_far (p := ⟨gb112, _, none⟩) (by first | exact Kd.own_blk (Kd.R_ne HO115.out BK112.out (by decide)) | (rw [add_block]; exact Kd.own_blk (Kd.R_ne HO115.out BK112.out (by decide))) | (show (Addr.add _ _).block ≠ _; rw [add_block]; exact Kd.own_blk (Kd.R_ne HO115.out BK112.out (by decide))) | (dsimp only; exact Kd.own_blk (Kd.R_ne HO115.out BK112.out (by decide)))) _).trans (((cell_far (p := ⟨gb112, _, none⟩) (by first | exact Kd.own_blk (Kd.R_ne HO115.out BK112.out (by decide)) | (rw [add_block]; exact Kd.own_blk (Kd.R_ne HO115.out BK112.out (by decide))) | (show (Addr.add _ _).block ≠ _; rw [add_block]; exact Kd.own_blk (Kd.R_ne HO115.out BK112.out (by decide))) | (dsimp only; exact Kd.own_blk (Kd.R_ne HO115.out BK112.out (by decide)))) _).trans (hHeld.2.2.1)))))))), ((cell_far (p := ⟨gb112, _, none⟩) (by first | exact Kd.own_blk (Kd.R_ne HO115.out BK112.out (by decide)) | (rw [add_block]; exact Kd.own_blk (Kd.R_ne HO115.out BK112.out (by decide))) | (show (Addr.add _ _).block ≠ _; rw [add_block]; exact Kd.own_blk (Kd.R_ne HO115.out BK112.out (by decide))) | (dsimp only; exact Kd.own_blk (Kd.R_ne HO115.out BK112.out (by decide)))) _).trans (((cell_far (p := ⟨gb112, _, none⟩) (by first | exact Kd.own_blk (Kd.R_ne HO115.out BK112.out (by decide)) | (rw [add_block]; exact Kd.own_blk (Kd.R_ne HO115.out BK112.out (by decide))) | (show (Addr.add _ _).block ≠ _; rw [add_block]; exact Kd.own_blk (Kd.R_ne HO115.out BK112.out (by decide))) | (dsimp only; exact Kd.own_blk (Kd.R_ne HO115.out BK112.out (by decide)))) _).trans (((cell_far (p := ⟨gb112, _, none⟩) (by first | exact Kd.own_blk (Kd.R_ne HO115.out BK112.out (by decide)) | (rw [add_block]; exact Kd.own_blk (Kd.R_ne HO115.out BK112.out (by decide))) | (show (Addr.add _ _).block ≠ _; rw [add_block]; exact Kd.own_blk (Kd.R_ne HO115.out BK112.out (by decide))) | (dsimp only; exact Kd.own_blk (Kd.R_ne HO115.out BK112.out (by decide)))) _).trans (((cell_far (p := ⟨gb112, _, none⟩) (by first | exact Kd.own_blk (Kd.R_ne HO115.out BK112.out (by decide)) | (rw [add_block]; exact Kd.own_blk (Kd.R_ne HO115.out BK112.out (by decide))) | (show (Addr.add _ _).block ≠ _; rw [add_block]; exact Kd.own_blk (Kd.R_ne HO115.out BK112.out (by decide))) | (dsimp only; exact Kd.own_blk (Kd.R_ne HO115.out BK112.out (by decide)))) _).trans (hHeld.2.2.2))))))))⟩ (fun hHeld => ?_)
                  clear hK K
                  refine done_ (done_of HT_.out (by kernel_rfl)) ?_
                  try go_wp2
                  refine bodyPost_ret (results_cell_row rfl _ _ gb112 24 #[.int .i64 (rd t113 (ji4)), .int .i64 (rd t113 (ji7)), .int .i64 (rd t113 (ji10)), .int .i64 (rd t113 (ji13))] (0, 0) _ rfl (by (with_reducible repeat (first | refine blk_drewN ?_ _ | refine blk_drew ?_ | refine blk_alloc ?_ _)); refine blk_put (cs := #[.int .i64 (rd t113 (ji4)), .int .i64 (rd t113 (ji7)), .int .i64 (rd t113 (ji10)), .int .i64 0]) ?_ 3 _ rfl; (with_reducible repeat (first | refine blk_drewN ?_ _ | refine blk_drew ?_ | refine blk_alloc ?_ _)); refine blk_put (cs := #[.int .i64 (rd t113 (ji4)), .int .i64 (rd t113 (ji7)), .int .i64 0, .int .i64 0]) ?_ 2 _ rfl; (with_reducible repeat (first | refine blk_drewN ?_ _ | refine blk_drew ?_ | refine blk_alloc ?_ _)); refine blk_put (cs := #[.int .i64 (rd t113 (ji4)), .int .i64 0, .int .i64 0, .int .i64 0]) ?_ 1 _ rfl; (with_reducible repeat (first | refine blk_drewN ?_ _ | refine blk_drew ?_ | refine blk_alloc ?_ _)); refine blk_put (cs := #[.int .i64 0, .int .i64 0, .int .i64 0, .int .i64 0]) ?_ 0 _ rfl; (with_reducible repeat (first | refine blk_drewN ?_ _ | refine blk_drew ?_ | refine blk_alloc ?_ _)); exact BK112.out) Try.underlying24 rfl (by kernel_rfl)) rfl ?_
                  exact ⟨by first | rfl | (simp [errW_none, errW_some] <;> rfl) | (simp only [← hji4, ← hji7, ← hji10, ← hji13]; first | rfl | (simp [errW_none, errW_some] <;> rfl)) | (simp [*, errW_none, errW_some] <;> rfl), by repeat (first | (with_reducible first | exact HB.out | apply below_alloc | apply pw_below_drewN | apply below_drew1 | refine below_set ?_ GE111.out | refine below_set ?_ GE112.out) | exact HB.out)⟩
                · rw [if_neg c15] at H
                  exact absurd H (by simp)
              · rw [if_neg c14] at H
                exact absurd H (by simp)
            · rw [if_neg c12] at H
              exact absurd H (by simp)
          · rw [if_neg c11] at H
            exact absurd H (by simp)
        · rw [if_neg c9] at H
          exact absurd H (by simp)
      · rw [if_neg c8] at H
        exact absurd H (by simp)
    · rw [if_neg c6] at H
      exact absurd H (by simp)
  · rw [if_neg c5] at H
    exact absurd H (by simp)

end Go.Proofs.Ytgcagmmghckbbaa.A

-- Printed by a program of this session (wip/tools/pp.py) over the kit's printer.
namespace Go.Proofs.Ytgcagmmghckbbaa.A
open Go.RowKit Go.Proofs.YtgcagmmghckbbaaW.PrintWords Go.Proofs.YtgcagmmghckbbaaW.PrintLast Go.Proofs.YtgcagmmghckbbaaW.PrintMore
attribute [local go_sem] max2_int min2_int max_two min_two max_three min_three max_four min_four   -- for this text's walks alone
set_option linter.unusedVariables false
set_option linter.unusedSimpArgs false

/-! ### spec_TurnTile: function 13 -/
def spec_TurnTile.f (k : Nat) (a0_0 : Int) (a0_1 : Int) (a0_2 : Int) (a0_3 : Int) (a1 : Int) : Option (Int × Int × Int × Int × Int) := (spec_l30Valid.f k (([(⟨a0_0, a0_1, a0_2, a0_3⟩ : S24)] : List (S24)))).bind fun t125 => (if t125 = true then ((spec_l01In.f a1 0 3).bind fun t126 => (if t126 = true then ((spec_l30Turn.f a0_0 a0_1 a0_2 a0_3 a1).bind fun bt127 => (some (bt127.1, bt127.2.1, bt127.2.2.1, bt127.2.2.2, 0))) else (some (0, 0, 0, 0, 2)))) else (some (0, 0, 0, 0, 1)))
set_option maxHeartbeats 8000000 in
set_option maxRecDepth 100000 in
theorem spec_TurnTile.calls (k : Nat) (a0_0 : Int) (a0_1 : Int) (a0_2 : Int) (a0_3 : Int) (a1 : Int) (r1 : Int) (r2 : Int) (r3 : Int) (r4 : Int) (r5 : Int) (w : World) (h : spec_TurnTile.f k a0_0 a0_1 a0_2 a0_3 a1 = some (r1, r2, r3, r4, r5)) :
    Calls Try.prog 13 #[.agg #[.int .i64 a0_0, .int .i64 a0_1, .int .i64 a0_2, .int .i64 a0_3], .int .i64 a1] w fun e w' => e = .returned (.tuple #[.agg #[.int .i64 r1, .int .i64 r2, .int .i64 r3, .int .i64 r4], .int .i64 r5]) ∧ Below w.heap.size w w' := by
  have hu24 := Try.underlying24
  have HB := Aside0.mk (Below.refl w.heap.size w)
  have H : ((spec_l30Valid.f k (([(⟨a0_0, a0_1, a0_2, a0_3⟩ : S24)] : List (S24)))).bind fun t125 => (if t125 = true then ((spec_l01In.f a1 0 3).bind fun t126 => (if t126 = true then ((spec_l30Turn.f a0_0 a0_1 a0_2 a0_3 a1).bind fun bt127 => (some (bt127.1, bt127.2.1, bt127.2.2.1, bt127.2.2.2, 0))) else (some (0, 0, 0, 0, 2)))) else (some (0, 0, 0, 0, 1)))) = some (r1, r2, r3, r4, r5) := h
  clear h
  obtain ⟨y122, hy122⟩ : ∃ y_ : List (S24), y_ = (([(⟨a0_0, a0_1, a0_2, a0_3⟩ : S24)] : List (S24))) := ⟨_, rfl⟩
  replace H : ((spec_l30Valid.f k y122).bind fun t125 => (if t125 = true then ((spec_l01In.f a1 0 3).bind fun t126 => (if t126 = true then ((spec_l30Turn.f a0_0 a0_1 a0_2 a0_3 a1).bind fun bt127 => (some (bt127.1, bt127.2.1, bt127.2.2.1, bt127.2.2.2, 0))) else (some (0, 0, 0, 0, 2)))) else (some (0, 0, 0, 0, 1)))) = some (r1, r2, r3, r4, r5) := by first | (rw [hy122]; with_reducible exact H) | (have H2_ := (Option.bind_some _ _).symm.trans H; rw [hy122]; with_reducible exact H2_) | (have H2_ := (Option.bind_some _ _).symm.trans H; with_reducible exact H2_) | with_reducible exact H | (rw [hy122]; exact H) | exact H
  have Ny122 := Aside0.mk hy122
  clear hy122
  replace H := Option.bind_eq_some_iff.mp H
  obtain ⟨t125, A30, H⟩ := H
  replace H : (if t125 = true then ((spec_l01In.f a1 0 3).bind fun t126 => (if t126 = true then ((spec_l30Turn.f a0_0 a0_1 a0_2 a0_3 a1).bind fun bt127 => (some (bt127.1, bt127.2.1, bt127.2.2.1, bt127.2.2.2, 0))) else (some (0, 0, 0, 0, 2)))) else (some (0, 0, 0, 0, 1))) = some (r1, r2, r3, r4, r5) := H
  have A3 := Aside0.mk A30
  clear A30
  have H0_ := Aside0.mk H
  clear H
  go_enter Try.func13, Try.ntmps13
  go_wp2_with (first | ((with_reducible refine gate_dst (N := 2) rfl ?_); refine box_event ?hg (N := 2) ?hd (cs := #[.int .i64 a0_0, .int .i64 a0_1, .int .i64 a0_2, .int .i64 a0_3]) (t := 24) ?hr ?_; (case hd => rfl); (case hg => rfl); (case hr => first | (go_simp; done) | (go_simp; rfl)); intro gb120 hg w4 hbox hb; have n0_ := Aside0.mk (below_step (by repeat (first | (with_reducible first | exact HB.out | apply below_alloc | apply pw_below_drewN | apply below_drew1) | exact HB.out)) hb); have n1_ := Aside0.mk (hbox); have n2_ := Aside0.mk ((by rw [hg]; exact (below_size (by repeat (first | (with_reducible first | exact HB.out | apply below_alloc | apply pw_below_drewN | apply below_drew1) | exact HB.out))) : w.heap.size ≤ gb120)); have n3_ := Aside0.mk ((by rw [hg]; exact (below_size (by repeat (first | (with_reducible first | exact HB.out | apply below_alloc | apply pw_below_drewN | apply below_drew1) | exact HB.out))) : w.heap.size ≤ gb120)); clear HB; have HB := n0_; have BK120 := n1_; have GW120 := n2_; have GE120 := n3_; clear n0_ n1_ n2_ n3_; clear hb hbox hg) | ((with_reducible refine gate_dst (N := 4) rfl ?_); refine box_event ?hg (N := 4) ?hd (cs := #[.int .i64 0, .int .i64 0, .int .i64 0, .int .i64 0]) (t := 24) ?hr ?_; (case hd => rfl); (case hg => rfl); (case hr => first | (go_simp; done) | (go_simp; rfl)); intro gb121 hg w5 hbox hb; have n0_ := Aside0.mk (blk_below (g := gb120) (o := .cells #[.int .i64 a0_0, .int .i64 a0_1, .int .i64 a0_2, .int .i64 a0_3] 24 (0, 0)) (by (with_reducible repeat (first | refine blk_drewN ?_ _ | refine blk_drew ?_ | refine blk_alloc ?_ _)); exact BK120.out) hb); have n1_ := Aside0.mk (below_step (by repeat (first | (with_reducible first | exact HB.out | apply below_alloc | apply pw_below_drewN | apply below_drew1 | refine below_set ?_ GE120.out) | exact HB.out)) hb); have n2_ := Aside0.mk (hbox); have n3_ := Aside0.mk ((by rw [hg]; exact (below_size (by repeat (first | (with_reducible first | exact HB.out | apply below_alloc | apply pw_below_drewN | apply below_drew1 | refine below_set ?_ GE120.out) | exact HB.out))) : w.heap.size ≤ gb121)); have n4_ := Aside0.mk ((by rw [hg]; exact (below_size (by repeat (first | (with_reducible first | exact HB.out | apply below_alloc | apply pw_below_drewN | apply below_drew1 | refine below_set ?_ GE120.out) | exact HB.out))) : w.heap.size ≤ gb121)); have n5_ := Aside0.mk ((by rw [hg]; exact Nat.ne_of_lt (blk_lt (g := gb120) (o := .cells #[.int .i64 a0_0, .int .i64 a0_1, .int .i64 a0_2, .int .i64 a0_3] 24 (0, 0)) (by (with_reducible repeat (first | refine blk_drewN ?_ _ | refine blk_drew ?_ | refine blk_alloc ?_ _)); exact BK120.out)) : gb120 ≠ gb121)); have n6_ := Aside0.mk ((by rw [hg]; exact Nat.ne_of_gt (blk_lt (g := gb120) (o := .cells #[.int .i64 a0_0, .int .i64 a0_1, .int .i64 a0_2, .int .i64 a0_3] 24 (0, 0)) (by (with_reducible repeat (first | refine blk_drewN ?_ _ | refine blk_drew ?_ | refine blk_alloc ?_ _)); exact BK120.out)) : gb121 ≠ gb120)); clear BK120; clear HB; have BK120 := n0_; have HB := n1_; have BK121 := n2_; have GW121 := n3_; have GE121 := n4_; have NB120_121 := n5_; have NB121_120 := n6_; clear n0_ n1_ n2_ n3_ n4_ n5_ n6_; clear hb hbox hg; have hnb6 := NB120_121.out; have hnc6 := NB121_120.out; have hcz7_0 : w5.cell? ⟨gb120, 0, none⟩ = some (.int .i64 a0_0) := (blk_cell BK120.out 0).trans rfl; have hcz7_1 : w5.cell? ⟨gb120, 1, none⟩ = some (.int .i64 a0_1) := (blk_cell BK120.out 1).trans rfl; have hcz7_2 : w5.cell? ⟨gb120, 2, none⟩ = some (.int .i64 a0_2) := (blk_cell BK120.out 2).trans rfl; have hcz7_3 : w5.cell? ⟨gb120, 3, none⟩ = some (.int .i64 a0_3) := (blk_cell BK120.out 3).trans rfl; have hfz7_0 := blk_frozen BK120.out 0; have hfz7_1 := blk_frozen BK120.out 1; have hfz7_2 := blk_frozen BK120.out 2; have hfz7_3 := blk_frozen BK120.out 3) | ((with_reducible refine gate_dst (N := 7) rfl ?_); refine Kd.R_lit k24 _ 24 ?hg (N := 7) ?hd (xs := ([(⟨a0_0, a0_1, a0_2, a0_3⟩ : S24)] : List (S24))) (inner := [.int .i64 a0_0, .int .i64 a0_1, .int .i64 a0_2, .int .i64 a0_3]) (ok := fun _ => True) (okp := fun _ => True) ?hr ?hp (fun _ hk => hk) trivial (Below.refl _ _) (Nat.le_refl _) (by simp) ?_; (case hd => rfl); (case hg => rfl); (case hr => first | (go_simp; done) | (go_simp; rfl)); (case hp => exact (Reps.c4 (show Kd.M k24 _ _ _ (⟨a0_0, a0_1, a0_2, a0_3⟩ : S24) [.int .i64 a0_0, .int .i64 a0_1, .int .i64 a0_2, .int .i64 a0_3] from (k24_mkM _ _ _ (⟨a0_0, a0_1, a0_2, a0_3⟩ : S24) )) (Reps.none _ _))); intro v123 w8 ho9 hb hg_ hnew_; clear hg_ hnew_; (first | rw [← Ny122.out] at ho9 | (simp only [Int.reduceToNat] at ho9; rw [← Ny122.out] at ho9)); have n0_ := Aside0.mk (Kd.R_lower (Kd.R_newB (Kd.R_newB ho9 (g := gb120) (o := .cells #[.int .i64 a0_0, .int .i64 a0_1, .int .i64 a0_2, .int .i64 a0_3] 24 (0, 0)) (by (with_reducible repeat (first | refine blk_drewN ?_ _ | refine blk_drew ?_ | refine blk_alloc ?_ _)); exact BK120.out)) (g := gb121) (o := .cells #[.int .i64 0, .int .i64 0, .int .i64 0, .int .i64 0] 24 (0, 0)) (by (with_reducible repeat (first | refine blk_drewN ?_ _ | refine blk_drew ?_ | refine blk_alloc ?_ _)); exact BK121.out)) (below_size (by repeat (first | (with_reducible first | exact HB.out | apply below_alloc | apply pw_below_drewN | apply below_drew1 | refine below_set ?_ GE120.out | refine below_set ?_ GE121.out) | exact HB.out)))); have n1_ := Aside0.mk (blk_below (g := gb120) (o := .cells #[.int .i64 a0_0, .int .i64 a0_1, .int .i64 a0_2, .int .i64 a0_3] 24 (0, 0)) (by (with_reducible repeat (first | refine blk_drewN ?_ _ | refine blk_drew ?_ | refine blk_alloc ?_ _)); exact BK120.out) hb); have n2_ := Aside0.mk (blk_below (g := gb121) (o := .cells #[.int .i64 0, .int .i64 0, .int .i64 0, .int .i64 0] 24 (0, 0)) (by (with_reducible repeat (first | refine blk_drewN ?_ _ | refine blk_drew ?_ | refine blk_alloc ?_ _)); exact BK121.out) hb); have n3_ := Aside0.mk (below_step (by repeat (first | (with_reducible first | exact HB.out | apply below_alloc | apply pw_below_drewN | apply below_drew1 | refine below_set ?_ GE120.out | refine below_set ?_ GE121.out) | exact HB.out)) hb); clear BK120; clear BK121; clear HB; have HO124 := n0_; have BK120 := n1_; have BK121 := n2_; have HB := n3_; clear n0_ n1_ n2_ n3_; clear hb ho9; obtain ⟨Ao10, co10, eo10⟩ := Kd.R_slice HO124.out; subst eo10) | ((with_reducible refine gate_callee (f := 49) rfl ?_); refine goesL_ (some 8) rfl rfl Try.func49 (by kernel_rfl) rfl #[.slice Ao10 y122.length co10] rfl (by (try simp only [List.map_toArray, List.map_cons, List.map_nil]); first | done | rfl | (simp only [List.length_drop, List.length_take]; rfl)) ?_; (with_reducible refine (spec_l30Valid.calls k _ _ y122 t125 _ ?side1 ?side2 A3.out).mono ?_); (case side1 => repeat (first | exact (Kd.R_reads' HO124.out).2.2 | (with_reducible refine Kd.C_alloc ?_ _) | (with_reducible refine Kd.C_drewN ?_ _) | (with_reducible refine Kd.C_drew ?_))); (case side2 => exact (Kd.R_reads' HO124.out).2.1); rintro e w11 ⟨rfl, hb⟩; refine ⟨_, rfl, ?_⟩; have n0_ := Aside0.mk (Kd.R_below (by (with_reducible repeat (first | apply Kd.R_alloc | apply Kd.R_drewN | apply Kd.R_drew)); exact HO124.out) hb); have n1_ := Aside0.mk (blk_below (g := gb120) (o := .cells #[.int .i64 a0_0, .int .i64 a0_1, .int .i64 a0_2, .int .i64 a0_3] 24 (0, 0)) (by (with_reducible repeat (first | refine blk_drewN ?_ _ | refine blk_drew ?_ | refine blk_alloc ?_ _)); exact BK120.out) hb); have n2_ := Aside0.mk (blk_below (g := gb121) (o := .cells #[.int .i64 0, .int .i64 0, .int .i64 0, .int .i64 0] 24 (0, 0)) (by (with_reducible repeat (first | refine blk_drewN ?_ _ | refine blk_drew ?_ | refine blk_alloc ?_ _)); exact BK121.out) hb); have n3_ := Aside0.mk (below_step (by repeat (first | (with_reducible first | exact HB.out | apply below_alloc | apply pw_below_drewN | apply below_drew1 | refine below_set ?_ GE120.out | refine below_set ?_ GE121.out) | exact HB.out)) hb); clear HO124; clear BK120; clear BK121; clear HB; have HO124 := n0_; have BK120 := n1_; have BK121 := n2_; have HB := n3_; clear n0_ n1_ n2_ n3_; (try clear hb); (try clear hb2); (try clear hk); (try clear hi); refine Stop0.out ?_))
  refine Stop0.mk ?_
  have H := H0_.out
  clear H0_
  by_cases c12 : t125 = true
  · subst c12
    have H1 : ((spec_l01In.f a1 0 3).bind fun t126 => (if t126 = true then ((spec_l30Turn.f a0_0 a0_1 a0_2 a0_3 a1).bind fun bt127 => (some (bt127.1, bt127.2.1, bt127.2.2.1, bt127.2.2.2, 0))) else (some (0, 0, 0, 0, 2)))) = some (r1, r2, r3, r4, r5) := by rw [if_pos rfl] at H; exact H
    clear H
    have H := H1
    clear H1
    replace H := Option.bind_eq_some_iff.mp H
    obtain ⟨t126, A130, H⟩ := H
    replace H : (if t126 = true then ((spec_l30Turn.f a0_0 a0_1 a0_2 a0_3 a1).bind fun bt127 => (some (bt127.1, bt127.2.1, bt127.2.2.1, bt127.2.2.2, 0))) else (some (0, 0, 0, 0, 2))) = some (r1, r2, r3, r4, r5) := H
    have A13 := Aside0.mk A130
    clear A130
    have H0_ := Aside0.mk H
    clear H
    go_wp2_with (first | ((with_reducible refine gate_callee (f := 50) rfl ?_); refine goesL_ (some 12) rfl rfl Try.func50 (by kernel_rfl) rfl #[.int .i64 a1, .int .i64 0, .int .i64 3] rfl (by (try simp only [List.map_toArray, List.map_cons, List.map_nil]); first | done | rfl | (simp only [List.length_drop, List.length_take]; rfl)) ?_; (with_reducible refine (spec_l01In.calls a1 0 3 t126 _ A13.out).mono ?_); rintro e w' ⟨rfl, ⟨nd, rfl⟩⟩; refine ⟨_, rfl, ?_⟩; refine Stop0.out ?_))
    refine Stop0.mk ?_
    have H := H0_.out
    clear H0_
    by_cases c14 : t126 = true
    · subst c14
      have H1 : ((spec_l30Turn.f a0_0 a0_1 a0_2 a0_3 a1).bind fun bt127 => (some (bt127.1, bt127.2.1, bt127.2.2.1, bt127.2.2.2, 0))) = some (r1, r2, r3, r4, r5) := by rw [if_pos rfl] at H; exact H
      clear H
      have H := H1
      clear H1
      replace H := Option.bind_eq_some_iff.mp H
      obtain ⟨⟨t127, t128, t129, t130⟩, A150, H⟩ := H
      replace H : (some (t127, t128, t129, t130, 0)) = some (r1, r2, r3, r4, r5) := H
      have A15 := Aside0.mk A150
      clear A150
      have H0_ := Aside0.mk H
      clear H
      have hnb16 := NB120_121.out
      have hnc16 := NB121_120.out
      have hcz17_0 : w11.cell? ⟨gb120, 0, none⟩ = some (.int .i64 a0_0) := (blk_cell BK120.out 0).trans rfl
      have hcz17_1 : w11.cell? ⟨gb120, 1, none⟩ = some (.int .i64 a0_1) := (blk_cell BK120.out 1).trans rfl
      have hcz17_2 : w11.cell? ⟨gb120, 2, none⟩ = some (.int .i64 a0_2) := (blk_cell BK120.out 2).trans rfl
      have hcz17_3 : w11.cell? ⟨gb120, 3, none⟩ = some (.int .i64 a0_3) := (blk_cell BK120.out 3).trans rfl
      have hfz17_0 := blk_frozen BK120.out 0
      have hfz17_1 := blk_frozen BK120.out 1
      have hfz17_2 := blk_frozen BK120.out 2
      have hfz17_3 := blk_frozen BK120.out 3
      go_wp2_with (first | ((with_reducible refine gate_callee (f := 51) rfl ?_); refine goesL_ (some 17) rfl rfl Try.func51 (by kernel_rfl) rfl #[.agg #[.int .i64 a0_0, .int .i64 a0_1, .int .i64 a0_2, .int .i64 a0_3], .int .i64 a1] rfl (by (try simp only [List.map_toArray, List.map_cons, List.map_nil]); first | done | rfl | (simp only [List.length_drop, List.length_take]; rfl)) ?_; (with_reducible refine (spec_l30Turn.calls a0_0 a0_1 a0_2 a0_3 a1 t127 t128 t129 t130 _ A15.out).mono ?_); rintro e w18 ⟨rfl, hb⟩; refine ⟨_, rfl, ?_⟩; have n0_ := Aside0.mk (Kd.R_below (by (with_reducible repeat (first | apply Kd.R_alloc | apply Kd.R_drewN | apply Kd.R_drew)); exact HO124.out) hb); have n1_ := Aside0.mk (blk_below (g := gb120) (o := .cells #[.int .i64 a0_0, .int .i64 a0_1, .int .i64 a0_2, .int .i64 a0_3] 24 (0, 0)) (by (with_reducible repeat (first | refine blk_drewN ?_ _ | refine blk_drew ?_ | refine blk_alloc ?_ _)); exact BK120.out) hb); have n2_ := Aside0.mk (blk_below (g := gb121) (o := .cells #[.int .i64 0, .int .i64 0, .int .i64 0, .int .i64 0] 24 (0, 0)) (by (with_reducible repeat (first | refine blk_drewN ?_ _ | refine blk_drew ?_ | refine blk_alloc ?_ _)); exact BK121.out) hb); have n3_ := Aside0.mk (below_step (by repeat (first | (with_reducible first | exact HB.out | apply below_alloc | apply pw_below_drewN | apply below_drew1 | refine below_set ?_ GE120.out | refine below_set ?_ GE121.out) | exact HB.out)) hb); clear HO124; clear BK120; clear BK121; clear HB; have HO124 := n0_; have BK120 := n1_; have BK121 := n2_; have HB := n3_; clear n0_ n1_ n2_ n3_; (try clear hb); (try clear hb2); (try clear hk); (try clear hi); refine Stop0.out ?_))
      refine Stop0.mk ?_
      have H := H0_.out
      clear H0_
      simp only [Option.some.injEq, Prod.mk.injEq] at H
      obtain ⟨rfl, rfl, rfl, rfl, rfl⟩ := H
      have hnb19 := NB121_120.out
      have hnc19 := NB120_121.out
      have hcz20_0 : w18.cell? ⟨gb121, 0, none⟩ = some (.int .i64 0) := (blk_cell BK121.out 0).trans rfl
      have hcz20_1 : w18.cell? ⟨gb121, 1, none⟩ = some (.int .i64 0) := (blk_cell BK121.out 1).trans rfl
      have hcz20_2 : w18.cell? ⟨gb121, 2, none⟩ = some (.int .i64 0) := (blk_cell BK121.out 2).trans rfl
      have hcz20_3 : w18.cell? ⟨gb121, 3, none⟩ = some (.int .i64 0) := (blk_cell BK121.out 3).trans rfl
      have hfz20_0 := blk_frozen BK121.out 0
      have hfz20_1 := blk_frozen BK121.out 1
      have hfz20_2 := blk_frozen BK121.out 2
      have hfz20_3 := blk_frozen BK121.out 3
      go_wp2
      refine bodyPost_ret (results_ct rfl _ _ gb121 24 #[.int .i64 t127, .int .i64 t128, .int .i64 t129, .int .i64 t130] (0, 0) _ rfl (by (with_reducible repeat (first | refine blk_drewN ?_ _ | refine blk_drew ?_ | refine blk_alloc ?_ _)); refine blk_put (cs := #[.int .i64 t127, .int .i64 t128, .int .i64 t129, .int .i64 0]) ?_ 3 _ rfl; (with_reducible repeat (first | refine blk_drewN ?_ _ | refine blk_drew ?_ | refine blk_alloc ?_ _)); refine blk_put (cs := #[.int .i64 t127, .int .i64 t128, .int .i64 0, .int .i64 0]) ?_ 2 _ rfl; (with_reducible repeat (first | refine blk_drewN ?_ _ | refine blk_drew ?_ | refine blk_alloc ?_ _)); refine blk_put (cs := #[.int .i64 t127, .int .i64 0, .int .i64 0, .int .i64 0]) ?_ 1 _ rfl; (with_reducible repeat (first | refine blk_drewN ?_ _ | refine blk_drew ?_ | refine blk_alloc ?_ _)); refine blk_put (cs := #[.int .i64 0, .int .i64 0, .int .i64 0, .int .i64 0]) ?_ 0 _ rfl; (with_reducible repeat (first | refine blk_drewN ?_ _ | refine blk_drew ?_ | refine blk_alloc ?_ _)); exact BK121.out) Try.underlying24 rfl (by kernel_rfl)) rfl ?_
      exact ⟨by first | rfl | (simp [errW_none, errW_some] <;> rfl) | (simp [*, errW_none, errW_some] <;> rfl), by repeat (first | (with_reducible first | exact HB.out | apply below_alloc | apply pw_below_drewN | apply below_drew1 | refine below_set ?_ GE120.out | refine below_set ?_ GE121.out) | exact HB.out)⟩
    · replace c14 := Bool.eq_false_iff.mpr c14
      subst c14
      have H1 : (some (0, 0, 0, 0, 2)) = some (r1, r2, r3, r4, r5) := by rw [if_neg (show ¬ (false = true) by decide)] at H; exact H
      clear H
      have H := H1
      clear H1
      simp only [Option.some.injEq, Prod.mk.injEq] at H
      obtain ⟨rfl, rfl, rfl, rfl, rfl⟩ := H
      have hnb21 := NB121_120.out
      have hnc21 := NB120_121.out
      have hcz22_0 : w11.cell? ⟨gb121, 0, none⟩ = some (.int .i64 0) := (blk_cell BK121.out 0).trans rfl
      have hcz22_1 : w11.cell? ⟨gb121, 1, none⟩ = some (.int .i64 0) := (blk_cell BK121.out 1).trans rfl
      have hcz22_2 : w11.cell? ⟨gb121, 2, none⟩ = some (.int .i64 0) := (blk_cell BK121.out 2).trans rfl
      have hcz22_3 : w11.cell? ⟨gb121, 3, none⟩ = some (.int .i64 0) := (blk_cell BK121.out 3).trans rfl
      have hfz22_0 := blk_frozen BK121.out 0
      have hfz22_1 := blk_frozen BK121.out 1
      have hfz22_2 := blk_frozen BK121.out 2
      have hfz22_3 := blk_frozen BK121.out 3
      go_wp2
      refine bodyPost_ret (results_ct rfl _ _ gb121 24 #[.int .i64 0, .int .i64 0, .int .i64 0, .int .i64 0] (0, 0) _ rfl (by (with_reducible repeat (first | refine blk_drewN ?_ _ | refine blk_drew ?_ | refine blk_alloc ?_ _)); refine blk_put (cs := #[.int .i64 0, .int .i64 0, .int .i64 0, .int .i64 0]) ?_ 3 _ rfl; (with_reducible repeat (first | refine blk_drewN ?_ _ | refine blk_drew ?_ | refine blk_alloc ?_ _)); refine blk_put (cs := #[.int .i64 0, .int .i64 0, .int .i64 0, .int .i64 0]) ?_ 2 _ rfl; (with_reducible repeat (first | refine blk_drewN ?_ _ | refine blk_drew ?_ | refine blk_alloc ?_ _)); refine blk_put (cs := #[.int .i64 0, .int .i64 0, .int .i64 0, .int .i64 0]) ?_ 1 _ rfl; (with_reducible repeat (first | refine blk_drewN ?_ _ | refine blk_drew ?_ | refine blk_alloc ?_ _)); refine blk_put (cs := #[.int .i64 0, .int .i64 0, .int .i64 0, .int .i64 0]) ?_ 0 _ rfl; (with_reducible repeat (first | refine blk_drewN ?_ _ | refine blk_drew ?_ | refine blk_alloc ?_ _)); exact BK121.out) Try.underlying24 rfl (by kernel_rfl)) rfl ?_
      exact ⟨by first | rfl | (simp [errW_none, errW_some] <;> rfl) | (simp [*, errW_none, errW_some] <;> rfl), by repeat (first | (with_reducible first | exact HB.out | apply below_alloc | apply pw_below_drewN | apply below_drew1 | refine below_set ?_ GE120.out | refine below_set ?_ GE121.out) | exact HB.out)⟩
  · replace c12 := Bool.eq_false_iff.mpr c12
    subst c12
    have H1 : (some (0, 0, 0, 0, 1)) = some (r1, r2, r3, r4, r5) := by rw [if_neg (show ¬ (false = true) by decide)] at H; exact H
    clear H
    have H := H1
    clear H1
    simp only [Option.some.injEq, Prod.mk.injEq] at H
    obtain ⟨rfl, rfl, rfl, rfl, rfl⟩ := H
    have hnb23 := NB121_120.out
    have hnc23 := NB120_121.out
    have hcz24_0 : w11.cell? ⟨gb121, 0, none⟩ = some (.int .i64 0) := (blk_cell BK121.out 0).trans rfl
    have hcz24_1 : w11.cell? ⟨gb121, 1, none⟩ = some (.int .i64 0) := (blk_cell BK121.out 1).trans rfl
    have hcz24_2 : w11.cell? ⟨gb121, 2, none⟩ = some (.int .i64 0) := (blk_cell BK121.out 2).trans rfl
    have hcz24_3 : w11.cell? ⟨gb121, 3, none⟩ = some (.int .i64 0) := (blk_cell BK121.out 3).trans rfl
    have hfz24_0 := blk_frozen BK121.out 0
    have hfz24_1 := blk_frozen BK121.out 1
    have hfz24_2 := blk_frozen BK121.out 2
    have hfz24_3 := blk_frozen BK121.out 3
    go_wp2
    refine bodyPost_ret (results_ct rfl _ _ gb121 24 #[.int .i64 0, .int .i64 0, .int .i64 0, .int .i64 0] (0, 0) _ rfl (by (with_reducible repeat (first | refine blk_drewN ?_ _ | refine blk_drew ?_ | refine blk_alloc ?_ _)); refine blk_put (cs := #[.int .i64 0, .int .i64 0, .int .i64 0, .int .i64 0]) ?_ 3 _ rfl; (with_reducible repeat (first | refine blk_drewN ?_ _ | refine blk_drew ?_ | refine blk_alloc ?_ _)); refine blk_put (cs := #[.int .i64 0, .int .i64 0, .int .i64 0, .int .i64 0]) ?_ 2 _ rfl; (with_reducible repeat (first | refine blk_drewN ?_ _ | refine blk_drew ?_ | refine blk_alloc ?_ _)); refine blk_put (cs := #[.int .i64 0, .int .i64 0, .int .i64 0, .int .i64 0]) ?_ 1 _ rfl; (with_reducible repeat (first | refine blk_drewN ?_ _ | refine blk_drew ?_ | refine blk_alloc ?_ _)); refine blk_put (cs := #[.int .i64 0, .int .i64 0, .int .i64 0, .int .i64 0]) ?_ 0 _ rfl; (with_reducible repeat (first | refine blk_drewN ?_ _ | refine blk_drew ?_ | refine blk_alloc ?_ _)); exact BK121.out) Try.underlying24 rfl (by kernel_rfl)) rfl ?_
    exact ⟨by first | rfl | (simp [errW_none, errW_some] <;> rfl) | (simp [*, errW_none, errW_some] <;> rfl), by repeat (first | (with_reducible first | exact HB.out | apply below_alloc | apply pw_below_drewN | apply below_drew1 | refine below_set ?_ GE120.out | refine below_set ?_ GE121.out) | exact HB.out)⟩

end Go.Proofs.Ytgcagmmghckbbaa.A

-- Printed by a program of this session (wip/tools/pp.py) over the kit's printer.
namespace Go.Proofs.Ytgcagmmghckbbaa.A
open Go.RowKit Go.Proofs.YtgcagmmghckbbaaW.PrintWords Go.Proofs.YtgcagmmghckbbaaW.PrintLast Go.Proofs.YtgcagmmghckbbaaW.PrintMore
attribute [local go_sem] max2_int min2_int max_two min_two max_three min_three max_four min_four   -- for this text's walks alone
set_option linter.unusedVariables false
set_option linter.unusedSimpArgs false

/-! ### impl_turnTile: function 54 -/
def impl_turnTile.l0 : Nat → Int → Int → Int → Int → Int → Int → Option (Int × Int × Int × Int)
  | 0, _, _, _, _, _, _ => none
  | k + 1, x5, x6, x140000, x140001, x140002, x140003 => if x6 < x5 then (impl_turnTile.l0 k x5 (wrap64 (x6 + 1)) x140003 x140000 x140001 x140002) else (some (x140000, x140001, x140002, x140003))
def impl_turnTile.f (k : Nat) (a0_0 : Int) (a0_1 : Int) (a0_2 : Int) (a0_3 : Int) (a1 : Int) : Option (Int × Int × Int × Int) := impl_turnTile.l0 k a1 0 a0_0 a0_1 a0_2 a0_3
set_option maxHeartbeats 8000000 in
set_option maxRecDepth 100000 in
theorem impl_turnTile.calls (k : Nat) (a0_0 : Int) (a0_1 : Int) (a0_2 : Int) (a0_3 : Int) (a1 : Int) (r1 : Int) (r2 : Int) (r3 : Int) (r4 : Int) (w : World) (h : impl_turnTile.f k a0_0 a0_1 a0_2 a0_3 a1 = some (r1, r2, r3, r4)) :
    Calls Try.prog 54 #[.agg #[.int .i64 a0_0, .int .i64 a0_1, .int .i64 a0_2, .int .i64 a0_3], .int .i64 a1] w fun e w' => e = .returned (.agg #[.int .i64 r1, .int .i64 r2, .int .i64 r3, .int .i64 r4]) ∧ Below w.heap.size w w' := by
  have hu24 := Try.underlying24
  have HB := Aside0.mk (Below.refl w.heap.size w)
  have H : (impl_turnTile.l0 k a1 0 a0_0 a0_1 a0_2 a0_3) = some (r1, r2, r3, r4) := h
  clear h
  have H' := Aside0.mk H
  clear H
  go_enter Try.func54, Try.ntmps54
  go_wp2_with (first | ((with_reducible refine gate_dst (N := 2) rfl ?_); refine box_event ?hg (N := 2) ?hd (cs := #[.int .i64 a0_0, .int .i64 a0_1, .int .i64 a0_2, .int .i64 a0_3]) (t := 24) ?hr ?_; (case hd => rfl); (case hg => rfl); (case hr => first | (go_simp; done) | (go_simp; rfl)); intro gb139 hg w3 hbox hb; have n0_ := Aside0.mk (below_step (by repeat (first | (with_reducible first | exact HB.out | apply below_alloc | apply pw_below_drewN | apply below_drew1) | exact HB.out)) hb); have n1_ := Aside0.mk (hbox); have n2_ := Aside0.mk ((by rw [hg]; exact (below_size (by repeat (first | (with_reducible first | exact HB.out | apply below_alloc | apply pw_below_drewN | apply below_drew1) | exact HB.out))) : w.heap.size ≤ gb139)); have n3_ := Aside0.mk ((by rw [hg]; exact (below_size (by repeat (first | (with_reducible first | exact HB.out | apply below_alloc | apply pw_below_drewN | apply below_drew1) | exact HB.out))) : w.heap.size ≤ gb139)); clear HB; have HB := n0_; have BK139 := n1_; have GW139 := n2_; have GE139 := n3_; clear n0_ n1_ n2_ n3_; clear hb hbox hg) | ((with_reducible refine gate_dst (N := 4) rfl ?_); refine box_event ?hg (N := 4) ?hd (cs := #[.int .i64 0, .int .i64 0, .int .i64 0, .int .i64 0]) (t := 24) ?hr ?_; (case hd => rfl); (case hg => rfl); (case hr => first | (go_simp; done) | (go_simp; rfl)); intro gb140 hg w4 hbox hb; have n0_ := Aside0.mk (blk_below (g := gb139) (o := .cells #[.int .i64 a0_0, .int .i64 a0_1, .int .i64 a0_2, .int .i64 a0_3] 24 (0, 0)) (by (with_reducible repeat (first | refine blk_drewN ?_ _ | refine blk_drew ?_ | refine blk_alloc ?_ _)); exact BK139.out) hb); have n1_ := Aside0.mk (below_step (by repeat (first | (with_reducible first | exact HB.out | apply below_alloc | apply pw_below_drewN | apply below_drew1 | refine below_set ?_ GE139.out) | exact HB.out)) hb); have n2_ := Aside0.mk (hbox); have n3_ := Aside0.mk ((by rw [hg]; exact (below_size (by repeat (first | (with_reducible first | exact HB.out | apply below_alloc | apply pw_below_drewN | apply below_drew1 | refine below_set ?_ GE139.out) | exact HB.out))) : w.heap.size ≤ gb140)); have n4_ := Aside0.mk ((by rw [hg]; exact (below_size (by repeat (first | (with_reducible first | exact HB.out | apply below_alloc | apply pw_below_drewN | apply below_drew1 | refine below_set ?_ GE139.out) | exact HB.out))) : w.heap.size ≤ gb140)); have n5_ := Aside0.mk ((by rw [hg]; exact Nat.ne_of_lt (blk_lt (g := gb139) (o := .cells #[.int .i64 a0_0, .int .i64 a0_1, .int .i64 a0_2, .int .i64 a0_3] 24 (0, 0)) (by (with_reducible repeat (first | refine blk_drewN ?_ _ | refine blk_drew ?_ | refine blk_alloc ?_ _)); exact BK139.out)) : gb139 ≠ gb140)); have n6_ := Aside0.mk ((by rw [hg]; exact Nat.ne_of_gt (blk_lt (g := gb139) (o := .cells #[.int .i64 a0_0, .int .i64 a0_1, .int .i64 a0_2, .int .i64 a0_3] 24 (0, 0)) (by (with_reducible repeat (first | refine blk_drewN ?_ _ | refine blk_drew ?_ | refine blk_alloc ?_ _)); exact BK139.out)) : gb140 ≠ gb139)); clear BK139; clear HB; have BK139 := n0_; have HB := n1_; have BK140 := n2_; have GW140 := n3_; have GE140 := n4_; have NB139_140 := n5_; have NB140_139 := n6_; clear n0_ n1_ n2_ n3_ n4_ n5_ n6_; clear hb hbox hg))
  go_loopg [6] k (fun kq v6 w' => ∃ (x6_1 : Int) (x140000_1 : Int) (x140001_1 : Int) (x140002_1 : Int) (x140003_1 : Int), v6 = .int .i64 x6_1 ∧ Aside0 (impl_turnTile.l0 kq a1 x6_1 x140000_1 x140001_1 x140002_1 x140003_1 = some (r1, r2, r3, r4)) ∧ Aside0 (kq ≤ k) ∧ Aside0 (w'.heap[gb139]? = some (.cells #[.int .i64 x140000_1, .int .i64 x140001_1, .int .i64 x140002_1, .int .i64 x140003_1] 24 (0, 0))) ∧ Aside0 (w'.heap[gb140]? = some (.cells #[.int .i64 0, .int .i64 0, .int .i64 0, .int .i64 0] 24 (0, 0))) ∧ Aside0 (Below w.heap.size w w'))
  case atStart => exact ⟨(0), (a0_0), (a0_1), (a0_2), (a0_3), (by first | rfl | (simp; done) | (simp [*]; done)), H', ⟨Nat.le_refl _⟩, ⟨by (with_reducible repeat (first | refine blk_drewN ?_ _ | refine blk_drew ?_ | refine blk_alloc ?_ _)); exact BK139.out⟩, ⟨by (with_reducible repeat (first | refine blk_drewN ?_ _ | refine blk_drew ?_ | refine blk_alloc ?_ _)); exact BK140.out⟩, ⟨by repeat (first | (with_reducible first | exact HB.out | apply below_alloc | apply pw_below_drewN | apply below_drew1 | refine below_set ?_ GE139.out | refine below_set ?_ GE140.out) | exact HB.out)⟩⟩
  case round =>
    clear H'
    try clear p2
    obtain ⟨x6_1, x140000_1, x140001_1, x140002_1, x140003_1, rfl, HA, HK1, BK139, BK140, HB⟩ := hrel
    cases gk with
    | zero => exact absurd HA.out (by simp [impl_turnTile.l0])
    | succ k1 =>
      have H := HA.out
      clear HA
      simp only [impl_turnTile.l0] at H
      by_cases c5 : x6_1 < a1
      · rw [if_pos c5] at H
        have c5b0 : decide (x6_1 < a1) = true := decide_eq_true c5
        clear c5
        have H' := Aside0.mk H
        clear H
        have hnb6 := NB139_140.out
        have hnc6 := NB140_139.out
        have hcz7_0 : wr.cell? ⟨gb139, 0, none⟩ = some (.int .i64 x140000_1) := (blk_cell BK139.out 0).trans rfl
        have hcz7_1 : wr.cell? ⟨gb139, 1, none⟩ = some (.int .i64 x140001_1) := (blk_cell BK139.out 1).trans rfl
        have hcz7_2 : wr.cell? ⟨gb139, 2, none⟩ = some (.int .i64 x140002_1) := (blk_cell BK139.out 2).trans rfl
        have hcz7_3 : wr.cell? ⟨gb139, 3, none⟩ = some (.int .i64 x140003_1) := (blk_cell BK139.out 3).trans rfl
        have hfz7_0 := blk_frozen BK139.out 0
        have hfz7_1 := blk_frozen BK139.out 1
        have hfz7_2 := blk_frozen BK139.out 2
        have hfz7_3 := blk_frozen BK139.out 3
        go_wp2
        go_roundg k1
        case measure => have := HK1.out; omega
        case rel => exact ⟨(wrap64 (x6_1 + 1)), (x140003_1), (x140000_1), (x140001_1), (x140002_1), (by first | rfl | (simp; done) | (simp [*]; done)), H', ⟨by have := HK1.out; omega⟩, ⟨by (with_reducible repeat (first | refine blk_drewN ?_ _ | refine blk_drew ?_ | refine blk_alloc ?_ _)); refine blk_put (cs := #[.int .i64 x140003_1, .int .i64 x140000_1, .int .i64 x140001_1, .int .i64 x140003_1]) ?_ 3 _ rfl; (with_reducible repeat (first | refine blk_drewN ?_ _ | refine blk_drew ?_ | refine blk_alloc ?_ _)); refine blk_put (cs := #[.int .i64 x140003_1, .int .i64 x140000_1, .int .i64 x140002_1, .int .i64 x140003_1]) ?_ 2 _ rfl; (with_reducible repeat (first | refine blk_drewN ?_ _ | refine blk_drew ?_ | refine blk_alloc ?_ _)); refine blk_put (cs := #[.int .i64 x140003_1, .int .i64 x140001_1, .int .i64 x140002_1, .int .i64 x140003_1]) ?_ 1 _ rfl; (with_reducible repeat (first | refine blk_drewN ?_ _ | refine blk_drew ?_ | refine blk_alloc ?_ _)); refine blk_put (cs := #[.int .i64 x140000_1, .int .i64 x140001_1, .int .i64 x140002_1, .int .i64 x140003_1]) ?_ 0 _ rfl; (with_reducible repeat (first | refine blk_drewN ?_ _ | refine blk_drew ?_ | refine blk_alloc ?_ _)); exact BK139.out⟩, ⟨by (with_reducible repeat (first | refine blk_drewN ?_ _ | refine blk_drew ?_ | refine blk_alloc ?_ _)); refine blk_far ?_ NB140_139.out _; (with_reducible repeat (first | refine blk_drewN ?_ _ | refine blk_drew ?_ | refine blk_alloc ?_ _)); refine blk_far ?_ NB140_139.out _; (with_reducible repeat (first | refine blk_drewN ?_ _ | refine blk_drew ?_ | refine blk_alloc ?_ _)); refine blk_far ?_ NB140_139.out _; (with_reducible repeat (first | refine blk_drewN ?_ _ | refine blk_drew ?_ | refine blk_alloc ?_ _)); refine blk_far ?_ NB140_139.out _; (with_reducible repeat (first | refine blk_drewN ?_ _ | refine blk_drew ?_ | refine blk_alloc ?_ _)); exact BK140.out⟩, ⟨by repeat (first | (with_reducible first | exact HB.out | apply below_alloc | apply pw_below_drewN | apply below_drew1 | refine below_set ?_ GE139.out | refine below_set ?_ GE140.out) | exact HB.out)⟩⟩
      · rw [if_neg c5] at H
        have c5b0 : decide (x6_1 < a1) = false := decide_eq_false c5
        clear c5
        simp only [Option.some.injEq, Prod.mk.injEq] at H
        obtain ⟨rfl, rfl, rfl, rfl⟩ := H
        have hnb8 := NB139_140.out
        have hnc8 := NB140_139.out
        have hcz9_0 : wr.cell? ⟨gb139, 0, none⟩ = some (.int .i64 x140000_1) := (blk_cell BK139.out 0).trans rfl
        have hcz9_1 : wr.cell? ⟨gb139, 1, none⟩ = some (.int .i64 x140001_1) := (blk_cell BK139.out 1).trans rfl
        have hcz9_2 : wr.cell? ⟨gb139, 2, none⟩ = some (.int .i64 x140002_1) := (blk_cell BK139.out 2).trans rfl
        have hcz9_3 : wr.cell? ⟨gb139, 3, none⟩ = some (.int .i64 x140003_1) := (blk_cell BK139.out 3).trans rfl
        have hfz9_0 := blk_frozen BK139.out 0
        have hfz9_1 := blk_frozen BK139.out 1
        have hfz9_2 := blk_frozen BK139.out 2
        have hfz9_3 := blk_frozen BK139.out 3
        have hcz10_0 : wr.cell? ⟨gb140, 0, none⟩ = some (.int .i64 0) := (blk_cell BK140.out 0).trans rfl
        have hcz10_1 : wr.cell? ⟨gb140, 1, none⟩ = some (.int .i64 0) := (blk_cell BK140.out 1).trans rfl
        have hcz10_2 : wr.cell? ⟨gb140, 2, none⟩ = some (.int .i64 0) := (blk_cell BK140.out 2).trans rfl
        have hcz10_3 : wr.cell? ⟨gb140, 3, none⟩ = some (.int .i64 0) := (blk_cell BK140.out 3).trans rfl
        have hfz10_0 := blk_frozen BK140.out 0
        have hfz10_1 := blk_frozen BK140.out 1
        have hfz10_2 := blk_frozen BK140.out 2
        have hfz10_3 := blk_frozen BK140.out 3
        go_wp2
        refine bodyPost_ret (results_cell_row rfl _ _ gb140 24 #[.int .i64 x140000_1, .int .i64 x140001_1, .int .i64 x140002_1, .int .i64 x140003_1] (0, 0) _ rfl (by (with_reducible repeat (first | refine blk_drewN ?_ _ | refine blk_drew ?_ | refine blk_alloc ?_ _)); refine blk_put (cs := #[.int .i64 x140000_1, .int .i64 x140001_1, .int .i64 x140002_1, .int .i64 0]) ?_ 3 _ rfl; (with_reducible repeat (first | refine blk_drewN ?_ _ | refine blk_drew ?_ | refine blk_alloc ?_ _)); refine blk_put (cs := #[.int .i64 x140000_1, .int .i64 x140001_1, .int .i64 0, .int .i64 0]) ?_ 2 _ rfl; (with_reducible repeat (first | refine blk_drewN ?_ _ | refine blk_drew ?_ | refine blk_alloc ?_ _)); refine blk_put (cs := #[.int .i64 x140000_1, .int .i64 0, .int .i64 0, .int .i64 0]) ?_ 1 _ rfl; (with_reducible repeat (first | refine blk_drewN ?_ _ | refine blk_drew ?_ | refine blk_alloc ?_ _)); refine blk_put (cs := #[.int .i64 0, .int .i64 0, .int .i64 0, .int .i64 0]) ?_ 0 _ rfl; (with_reducible repeat (first | refine blk_drewN ?_ _ | refine blk_drew ?_ | refine blk_alloc ?_ _)); exact BK140.out) Try.underlying24 rfl (by kernel_rfl)) rfl ?_
        exact ⟨by first | rfl | (simp [errW_none, errW_some] <;> rfl) | (simp [*, errW_none, errW_some] <;> rfl), by repeat (first | (with_reducible first | exact HB.out | apply below_alloc | apply pw_below_drewN | apply below_drew1 | refine below_set ?_ GE139.out | refine below_set ?_ GE140.out) | exact HB.out)⟩

end Go.Proofs.Ytgcagmmghckbbaa.A

-- Printed by a program of this session (wip/tools/pp.py) over the kit's printer.
namespace Go.Proofs.Ytgcagmmghckbbaa.A
open Go.RowKit Go.Proofs.YtgcagmmghckbbaaW.PrintWords Go.Proofs.YtgcagmmghckbbaaW.PrintLast Go.Proofs.YtgcagmmghckbbaaW.PrintMore
attribute [local go_sem] max2_int min2_int max_two min_two max_three min_three max_four min_four   -- for this text's walks alone
set_option linter.unusedVariables false
set_option linter.unusedSimpArgs false

/-! ### impl_TurnTile: function 15 -/
def impl_TurnTile.f (k : Nat) (a0_0 : Int) (a0_1 : Int) (a0_2 : Int) (a0_3 : Int) (a1 : Int) : Option (Int × Int × Int × Int × Int) := (impl_isTile.f a0_0 a0_1 a0_2 a0_3).bind fun t143 => (if t143 = true then ((impl_within.f a1 0 3).bind fun t144 => (if t144 = true then ((impl_turnTile.f k a0_0 a0_1 a0_2 a0_3 a1).bind fun bt145 => (some (bt145.1, bt145.2.1, bt145.2.2.1, bt145.2.2.2, 0))) else (some (0, 0, 0, 0, 2)))) else (some (0, 0, 0, 0, 1)))
set_option maxHeartbeats 8000000 in
set_option maxRecDepth 100000 in
theorem impl_TurnTile.calls (k : Nat) (a0_0 : Int) (a0_1 : Int) (a0_2 : Int) (a0_3 : Int) (a1 : Int) (r1 : Int) (r2 : Int) (r3 : Int) (r4 : Int) (r5 : Int) (w : World) (h : impl_TurnTile.f k a0_0 a0_1 a0_2 a0_3 a1 = some (r1, r2, r3, r4, r5)) :
    Calls Try.prog 15 #[.agg #[.int .i64 a0_0, .int .i64 a0_1, .int .i64 a0_2, .int .i64 a0_3], .int .i64 a1] w fun e w' => e = .returned (.tuple #[.agg #[.int .i64 r1, .int .i64 r2, .int .i64 r3, .int .i64 r4], .int .i64 r5]) ∧ Below w.heap.size w w' := by
  have hu24 := Try.underlying24
  have HB := Aside0.mk (Below.refl w.heap.size w)
  have H : ((impl_isTile.f a0_0 a0_1 a0_2 a0_3).bind fun t143 => (if t143 = true then ((impl_within.f a1 0 3).bind fun t144 => (if t144 = true then ((impl_turnTile.f k a0_0 a0_1 a0_2 a0_3 a1).bind fun bt145 => (some (bt145.1, bt145.2.1, bt145.2.2.1, bt145.2.2.2, 0))) else (some (0, 0, 0, 0, 2)))) else (some (0, 0, 0, 0, 1)))) = some (r1, r2, r3, r4, r5) := h
  clear h
  replace H := Option.bind_eq_some_iff.mp H
  obtain ⟨t143, A30, H⟩ := H
  replace H : (if t143 = true then ((impl_within.f a1 0 3).bind fun t144 => (if t144 = true then ((impl_turnTile.f k a0_0 a0_1 a0_2 a0_3 a1).bind fun bt145 => (some (bt145.1, bt145.2.1, bt145.2.2.1, bt145.2.2.2, 0))) else (some (0, 0, 0, 0, 2)))) else (some (0, 0, 0, 0, 1))) = some (r1, r2, r3, r4, r5) := H
  have A3 := Aside0.mk A30
  clear A30
  have H0_ := Aside0.mk H
  clear H
  go_enter Try.func15, Try.ntmps15
  go_wp2_with (first | ((with_reducible refine gate_dst (N := 2) rfl ?_); refine box_event ?hg (N := 2) ?hd (cs := #[.int .i64 a0_0, .int .i64 a0_1, .int .i64 a0_2, .int .i64 a0_3]) (t := 24) ?hr ?_; (case hd => rfl); (case hg => rfl); (case hr => first | (go_simp; done) | (go_simp; rfl)); intro gb141 hg w4 hbox hb; have n0_ := Aside0.mk (below_step (by repeat (first | (with_reducible first | exact HB.out | apply below_alloc | apply pw_below_drewN | apply below_drew1) | exact HB.out)) hb); have n1_ := Aside0.mk (hbox); have n2_ := Aside0.mk ((by rw [hg]; exact (below_size (by repeat (first | (with_reducible first | exact HB.out | apply below_alloc | apply pw_below_drewN | apply below_drew1) | exact HB.out))) : w.heap.size ≤ gb141)); have n3_ := Aside0.mk ((by rw [hg]; exact (below_size (by repeat (first | (with_reducible first | exact HB.out | apply below_alloc | apply pw_below_drewN | apply below_drew1) | exact HB.out))) : w.heap.size ≤ gb141)); clear HB; have HB := n0_; have BK141 := n1_; have GW141 := n2_; have GE141 := n3_; clear n0_ n1_ n2_ n3_; clear hb hbox hg) | ((with_reducible refine gate_dst (N := 4) rfl ?_); refine box_event ?hg (N := 4) ?hd (cs := #[.int .i64 0, .int .i64 0, .int .i64 0, .int .i64 0]) (t := 24) ?hr ?_; (case hd => rfl); (case hg => rfl); (case hr => first | (go_simp; done) | (go_simp; rfl)); intro gb142 hg w5 hbox hb; have n0_ := Aside0.mk (blk_below (g := gb141) (o := .cells #[.int .i64 a0_0, .int .i64 a0_1, .int .i64 a0_2, .int .i64 a0_3] 24 (0, 0)) (by (with_reducible repeat (first | refine blk_drewN ?_ _ | refine blk_drew ?_ | refine blk_alloc ?_ _)); exact BK141.out) hb); have n1_ := Aside0.mk (below_step (by repeat (first | (with_reducible first | exact HB.out | apply below_alloc | apply pw_below_drewN | apply below_drew1 | refine below_set ?_ GE141.out) | exact HB.out)) hb); have n2_ := Aside0.mk (hbox); have n3_ := Aside0.mk ((by rw [hg]; exact (below_size (by repeat (first | (with_reducible first | exact HB.out | apply below_alloc | apply pw_below_drewN | apply below_drew1 | refine below_set ?_ GE141.out) | exact HB.out))) : w.heap.size ≤ gb142)); have n4_ := Aside0.mk ((by rw [hg]; exact (below_size (by repeat (first | (with_reducible first | exact HB.out | apply below_alloc | apply pw_below_drewN | apply below_drew1 | refine below_set ?_ GE141.out) | exact HB.out))) : w.heap.size ≤ gb142)); have n5_ := Aside0.mk ((by rw [hg]; exact Nat.ne_of_lt (blk_lt (g := gb141) (o := .cells #[.int .i64 a0_0, .int .i64 a0_1, .int .i64 a0_2, .int .i64 a0_3] 24 (0, 0)) (by (with_reducible repeat (first | refine blk_drewN ?_ _ | refine blk_drew ?_ | refine blk_alloc ?_ _)); exact BK141.out)) : gb141 ≠ gb142)); have n6_ := Aside0.mk ((by rw [hg]; exact Nat.ne_of_gt (blk_lt (g := gb141) (o := .cells #[.int .i64 a0_0, .int .i64 a0_1, .int .i64 a0_2, .int .i64 a0_3] 24 (0, 0)) (by (with_reducible repeat (first | refine blk_drewN ?_ _ | refine blk_drew ?_ | refine blk_alloc ?_ _)); exact BK141.out)) : gb142 ≠ gb141)); clear BK141; clear HB; have BK141 := n0_; have HB := n1_; have BK142 := n2_; have GW142 := n3_; have GE142 := n4_; have NB141_142 := n5_; have NB142_141 := n6_; clear n0_ n1_ n2_ n3_ n4_ n5_ n6_; clear hb hbox hg; have hnb6 := NB141_142.out; have hnc6 := NB142_141.out; have hcz7_0 : w5.cell? ⟨gb141, 0, none⟩ = some (.int .i64 a0_0) := (blk_cell BK141.out 0).trans rfl; have hcz7_1 : w5.cell? ⟨gb141, 1, none⟩ = some (.int .i64 a0_1) := (blk_cell BK141.out 1).trans rfl; have hcz7_2 : w5.cell? ⟨gb141, 2, none⟩ = some (.int .i64 a0_2) := (blk_cell BK141.out 2).trans rfl; have hcz7_3 : w5.cell? ⟨gb141, 3, none⟩ = some (.int .i64 a0_3) := (blk_cell BK141.out 3).trans rfl; have hfz7_0 := blk_frozen BK141.out 0; have hfz7_1 := blk_frozen BK141.out 1; have hfz7_2 := blk_frozen BK141.out 2; have hfz7_3 := blk_frozen BK141.out 3) | ((with_reducible refine gate_callee (f := 52) rfl ?_); refine goesL_ (some 7) rfl rfl Try.func52 (by kernel_rfl) rfl #[.agg #[.int .i64 a0_0, .int .i64 a0_1, .int .i64 a0_2, .int .i64 a0_3]] rfl (by (try simp only [List.map_toArray, List.map_cons, List.map_nil]); first | done | rfl | (simp only [List.length_drop, List.length_take]; rfl)) ?_; (with_reducible refine (impl_isTile.calls a0_0 a0_1 a0_2 a0_3 t143 _ A3.out).mono ?_); rintro e w8 ⟨rfl, hb⟩; refine ⟨_, rfl, ?_⟩; have n0_ := Aside0.mk (blk_below (g := gb141) (o := .cells #[.int .i64 a0_0, .int .i64 a0_1, .int .i64 a0_2, .int .i64 a0_3] 24 (0, 0)) (by (with_reducible repeat (first | refine blk_drewN ?_ _ | refine blk_drew ?_ | refine blk_alloc ?_ _)); exact BK141.out) hb); have n1_ := Aside0.mk (blk_below (g := gb142) (o := .cells #[.int .i64 0, .int .i64 0, .int .i64 0, .int .i64 0] 24 (0, 0)) (by (with_reducible repeat (first | refine blk_drewN ?_ _ | refine blk_drew ?_ | refine blk_alloc ?_ _)); exact BK142.out) hb); have n2_ := Aside0.mk (below_step (by repeat (first | (with_reducible first | exact HB.out | apply below_alloc | apply pw_below_drewN | apply below_drew1 | refine below_set ?_ GE141.out | refine below_set ?_ GE142.out) | exact HB.out)) hb); clear BK141; clear BK142; clear HB; have BK141 := n0_; have BK142 := n1_; have HB := n2_; clear n0_ n1_ n2_; (try clear hb); (try clear hb2); (try clear hk); (try clear hi); refine Stop0.out ?_))
  refine Stop0.mk ?_
  have H := H0_.out
  clear H0_
  by_cases c9 : t143 = true
  · subst c9
    have H1 : ((impl_within.f a1 0 3).bind fun t144 => (if t144 = true then ((impl_turnTile.f k a0_0 a0_1 a0_2 a0_3 a1).bind fun bt145 => (some (bt145.1, bt145.2.1, bt145.2.2.1, bt145.2.2.2, 0))) else (some (0, 0, 0, 0, 2)))) = some (r1, r2, r3, r4, r5) := by rw [if_pos rfl] at H; exact H
    clear H
    have H := H1
    clear H1
    replace H := Option.bind_eq_some_iff.mp H
    obtain ⟨t144, A100, H⟩ := H
    replace H : (if t144 = true then ((impl_turnTile.f k a0_0 a0_1 a0_2 a0_3 a1).bind fun bt145 => (some (bt145.1, bt145.2.1, bt145.2.2.1, bt145.2.2.2, 0))) else (some (0, 0, 0, 0, 2))) = some (r1, r2, r3, r4, r5) := H
    have A10 := Aside0.mk A100
    clear A100
    have H0_ := Aside0.mk H
    clear H
    go_wp2_with (first | ((with_reducible refine gate_callee (f := 53) rfl ?_); refine goesL_ (some 11) rfl rfl Try.func53 (by kernel_rfl) rfl #[.int .i64 a1, .int .i64 0, .int .i64 3] rfl (by (try simp only [List.map_toArray, List.map_cons, List.map_nil]); first | done | rfl | (simp only [List.length_drop, List.length_take]; rfl)) ?_; (with_reducible refine (impl_within.calls a1 0 3 t144 _ A10.out).mono ?_); rintro e w' ⟨rfl, ⟨nd, rfl⟩⟩; refine ⟨_, rfl, ?_⟩; refine Stop0.out ?_))
    refine Stop0.mk ?_
    have H := H0_.out
    clear H0_
    by_cases c11 : t144 = true
    · subst c11
      have H1 : ((impl_turnTile.f k a0_0 a0_1 a0_2 a0_3 a1).bind fun bt145 => (some (bt145.1, bt145.2.1, bt145.2.2.1, bt145.2.2.2, 0))) = some (r1, r2, r3, r4, r5) := by rw [if_pos rfl] at H; exact H
      clear H
      have H := H1
      clear H1
      replace H := Option.bind_eq_some_iff.mp H
      obtain ⟨⟨t145, t146, t147, t148⟩, A120, H⟩ := H
      replace H : (some (t145, t146, t147, t148, 0)) = some (r1, r2, r3, r4, r5) := H
      have A12 := Aside0.mk A120
      clear A120
      have H0_ := Aside0.mk H
      clear H
      have hnb13 := NB141_142.out
      have hnc13 := NB142_141.out
      have hcz14_0 : w8.cell? ⟨gb141, 0, none⟩ = some (.int .i64 a0_0) := (blk_cell BK141.out 0).trans rfl
      have hcz14_1 : w8.cell? ⟨gb141, 1, none⟩ = some (.int .i64 a0_1) := (blk_cell BK141.out 1).trans rfl
      have hcz14_2 : w8.cell? ⟨gb141, 2, none⟩ = some (.int .i64 a0_2) := (blk_cell BK141.out 2).trans rfl
      have hcz14_3 : w8.cell? ⟨gb141, 3, none⟩ = some (.int .i64 a0_3) := (blk_cell BK141.out 3).trans rfl
      have hfz14_0 := blk_frozen BK141.out 0
      have hfz14_1 := blk_frozen BK141.out 1
      have hfz14_2 := blk_frozen BK141.out 2
      have hfz14_3 := blk_frozen BK141.out 3
      go_wp2_with (first | ((with_reducible refine gate_callee (f := 54) rfl ?_); refine goesL_ (some 16) rfl rfl Try.func54 (by kernel_rfl) rfl #[.agg #[.int .i64 a0_0, .int .i64 a0_1, .int .i64 a0_2, .int .i64 a0_3], .int .i64 a1] rfl (by (try simp only [List.map_toArray, List.map_cons, List.map_nil]); first | done | rfl | (simp only [List.length_drop, List.length_take]; rfl)) ?_; (with_reducible refine (impl_turnTile.calls k a0_0 a0_1 a0_2 a0_3 a1 t145 t146 t147 t148 _ A12.out).mono ?_); rintro e w15 ⟨rfl, hb⟩; refine ⟨_, rfl, ?_⟩; have n0_ := Aside0.mk (blk_below (g := gb141) (o := .cells #[.int .i64 a0_0, .int .i64 a0_1, .int .i64 a0_2, .int .i64 a0_3] 24 (0, 0)) (by (with_reducible repeat (first | refine blk_drewN ?_ _ | refine blk_drew ?_ | refine blk_alloc ?_ _)); exact BK141.out) hb); have n1_ := Aside0.mk (blk_below (g := gb142) (o := .cells #[.int .i64 0, .int .i64 0, .int .i64 0, .int .i64 0] 24 (0, 0)) (by (with_reducible repeat (first | refine blk_drewN ?_ _ | refine blk_drew ?_ | refine blk_alloc ?_ _)); exact BK142.out) hb); have n2_ := Aside0.mk (below_step (by repeat (first | (with_reducible first | exact HB.out | apply below_alloc | apply pw_below_drewN | apply below_drew1 | refine below_set ?_ GE141.out | refine below_set ?_ GE142.out) | exact HB.out)) hb); clear BK141; clear BK142; clear HB; have BK141 := n0_; have BK142 := n1_; have HB := n2_; clear n0_ n1_ n2_; (try clear hb); (try clear hb2); (try clear hk); (try clear hi); refine Stop0.out ?_))
      refine Stop0.mk ?_
      have H := H0_.out
      clear H0_
      simp only [Option.some.injEq, Prod.mk.injEq] at H
      obtain ⟨rfl, rfl, rfl, rfl, rfl⟩ := H
      have hnb16 := NB142_141.out
      have hnc16 := NB141_142.out
      have hcz17_0 : w15.cell? ⟨gb142, 0, none⟩ = some (.int .i64 0) := (blk_cell BK142.out 0).trans rfl
      have hcz17_1 : w15.cell? ⟨gb142, 1, none⟩ = some (.int .i64 0) := (blk_cell BK142.out 1).trans rfl
      have hcz17_2 : w15.cell? ⟨gb142, 2, none⟩ = some (.int .i64 0) := (blk_cell BK142.out 2).trans rfl
      have hcz17_3 : w15.cell? ⟨gb142, 3, none⟩ = some (.int .i64 0) := (blk_cell BK142.out 3).trans rfl
      have hfz17_0 := blk_frozen BK142.out 0
      have hfz17_1 := blk_frozen BK142.out 1
      have hfz17_2 := blk_frozen BK142.out 2
      have hfz17_3 := blk_frozen BK142.out 3
      go_wp2
      refine bodyPost_ret (results_ct rfl _ _ gb142 24 #[.int .i64 t145, .int .i64 t146, .int .i64 t147, .int .i64 t148] (0, 0) _ rfl (by (with_reducible repeat (first | refine blk_drewN ?_ _ | refine blk_drew ?_ | refine blk_alloc ?_ _)); refine blk_put (cs := #[.int .i64 t145, .int .i64 t146, .int .i64 t147, .int .i64 0]) ?_ 3 _ rfl; (with_reducible repeat (first | refine blk_drewN ?_ _ | refine blk_drew ?_ | refine blk_alloc ?_ _)); refine blk_put (cs := #[.int .i64 t145, .int .i64 t146, .int .i64 0, .int .i64 0]) ?_ 2 _ rfl; (with_reducible repeat (first | refine blk_drewN ?_ _ | refine blk_drew ?_ | refine blk_alloc ?_ _)); refine blk_put (cs := #[.int .i64 t145, .int .i64 0, .int .i64 0, .int .i64 0]) ?_ 1 _ rfl; (with_reducible repeat (first | refine blk_drewN ?_ _ | refine blk_drew ?_ | refine blk_alloc ?_ _)); refine blk_put (cs := #[.int .i64 0, .int .i64 0, .int .i64 0, .int .i64 0]) ?_ 0 _ rfl; (with_reducible repeat (first | refine blk_drewN ?_ _ | refine blk_drew ?_ | refine blk_alloc ?_ _)); exact BK142.out) Try.underlying24 rfl (by kernel_rfl)) rfl ?_
      exact ⟨by first | rfl | (simp [errW_none, errW_some] <;> rfl) | (simp [*, errW_none, errW_some] <;> rfl), by repeat (first | (with_reducible first | exact HB.out | apply below_alloc | apply pw_below_drewN | apply below_drew1 | refine below_set ?_ GE141.out | refine below_set ?_ GE142.out) | exact HB.out)⟩
    · replace c11 := Bool.eq_false_iff.mpr c11
      subst c11
      have H1 : (some (0, 0, 0, 0, 2)) = some (r1, r2, r3, r4, r5) := by rw [if_neg (show ¬ (false = true) by decide)] at H; exact H
      clear H
      have H := H1
      clear H1
      simp only [Option.some.injEq, Prod.mk.injEq] at H
      obtain ⟨rfl, rfl, rfl, rfl, rfl⟩ := H
      have hnb18 := NB142_141.out
      have hnc18 := NB141_142.out
      have hcz19_0 : w8.cell? ⟨gb142, 0, none⟩ = some (.int .i64 0) := (blk_cell BK142.out 0).trans rfl
      have hcz19_1 : w8.cell? ⟨gb142, 1, none⟩ = some (.int .i64 0) := (blk_cell BK142.out 1).trans rfl
      have hcz19_2 : w8.cell? ⟨gb142, 2, none⟩ = some (.int .i64 0) := (blk_cell BK142.out 2).trans rfl
      have hcz19_3 : w8.cell? ⟨gb142, 3, none⟩ = some (.int .i64 0) := (blk_cell BK142.out 3).trans rfl
      have hfz19_0 := blk_frozen BK142.out 0
      have hfz19_1 := blk_frozen BK142.out 1
      have hfz19_2 := blk_frozen BK142.out 2
      have hfz19_3 := blk_frozen BK142.out 3
      go_wp2
      refine bodyPost_ret (results_ct rfl _ _ gb142 24 #[.int .i64 0, .int .i64 0, .int .i64 0, .int .i64 0] (0, 0) _ rfl (by (with_reducible repeat (first | refine blk_drewN ?_ _ | refine blk_drew ?_ | refine blk_alloc ?_ _)); refine blk_put (cs := #[.int .i64 0, .int .i64 0, .int .i64 0, .int .i64 0]) ?_ 3 _ rfl; (with_reducible repeat (first | refine blk_drewN ?_ _ | refine blk_drew ?_ | refine blk_alloc ?_ _)); refine blk_put (cs := #[.int .i64 0, .int .i64 0, .int .i64 0, .int .i64 0]) ?_ 2 _ rfl; (with_reducible repeat (first | refine blk_drewN ?_ _ | refine blk_drew ?_ | refine blk_alloc ?_ _)); refine blk_put (cs := #[.int .i64 0, .int .i64 0, .int .i64 0, .int .i64 0]) ?_ 1 _ rfl; (with_reducible repeat (first | refine blk_drewN ?_ _ | refine blk_drew ?_ | refine blk_alloc ?_ _)); refine blk_put (cs := #[.int .i64 0, .int .i64 0, .int .i64 0, .int .i64 0]) ?_ 0 _ rfl; (with_reducible repeat (first | refine blk_drewN ?_ _ | refine blk_drew ?_ | refine blk_alloc ?_ _)); exact BK142.out) Try.underlying24 rfl (by kernel_rfl)) rfl ?_
      exact ⟨by first | rfl | (simp [errW_none, errW_some] <;> rfl) | (simp [*, errW_none, errW_some] <;> rfl), by repeat (first | (with_reducible first | exact HB.out | apply below_alloc | apply pw_below_drewN | apply below_drew1 | refine below_set ?_ GE141.out | refine below_set ?_ GE142.out) | exact HB.out)⟩
  · replace c9 := Bool.eq_false_iff.mpr c9
    subst c9
    have H1 : (some (0, 0, 0, 0, 1)) = some (r1, r2, r3, r4, r5) := by rw [if_neg (show ¬ (false = true) by decide)] at H; exact H
    clear H
    have H := H1
    clear H1
    simp only [Option.some.injEq, Prod.mk.injEq] at H
    obtain ⟨rfl, rfl, rfl, rfl, rfl⟩ := H
    have hnb20 := NB142_141.out
    have hnc20 := NB141_142.out
    have hcz21_0 : w8.cell? ⟨gb142, 0, none⟩ = some (.int .i64 0) := (blk_cell BK142.out 0).trans rfl
    have hcz21_1 : w8.cell? ⟨gb142, 1, none⟩ = some (.int .i64 0) := (blk_cell BK142.out 1).trans rfl
    have hcz21_2 : w8.cell? ⟨gb142, 2, none⟩ = some (.int .i64 0) := (blk_cell BK142.out 2).trans rfl
    have hcz21_3 : w8.cell? ⟨gb142, 3, none⟩ = some (.int .i64 0) := (blk_cell BK142.out 3).trans rfl
    have hfz21_0 := blk_frozen BK142.out 0
    have hfz21_1 := blk_frozen BK142.out 1
    have hfz21_2 := blk_frozen BK142.out 2
    have hfz21_3 := blk_frozen BK142.out 3
    go_wp2
    refine bodyPost_ret (results_ct rfl _ _ gb142 24 #[.int .i64 0, .int .i64 0, .int .i64 0, .int .i64 0] (0, 0) _ rfl (by (with_reducible repeat (first | refine blk_drewN ?_ _ | refine blk_drew ?_ | refine blk_alloc ?_ _)); refine blk_put (cs := #[.int .i64 0, .int .i64 0, .int .i64 0, .int .i64 0]) ?_ 3 _ rfl; (with_reducible repeat (first | refine blk_drewN ?_ _ | refine blk_drew ?_ | refine blk_alloc ?_ _)); refine blk_put (cs := #[.int .i64 0, .int .i64 0, .int .i64 0, .int .i64 0]) ?_ 2 _ rfl; (with_reducible repeat (first | refine blk_drewN ?_ _ | refine blk_drew ?_ | refine blk_alloc ?_ _)); refine blk_put (cs := #[.int .i64 0, .int .i64 0, .int .i64 0, .int .i64 0]) ?_ 1 _ rfl; (with_reducible repeat (first | refine blk_drewN ?_ _ | refine blk_drew ?_ | refine blk_alloc ?_ _)); refine blk_put (cs := #[.int .i64 0, .int .i64 0, .int .i64 0, .int .i64 0]) ?_ 0 _ rfl; (with_reducible repeat (first | refine blk_drewN ?_ _ | refine blk_drew ?_ | refine blk_alloc ?_ _)); exact BK142.out) Try.underlying24 rfl (by kernel_rfl)) rfl ?_
    exact ⟨by first | rfl | (simp [errW_none, errW_some] <;> rfl) | (simp [*, errW_none, errW_some] <;> rfl), by repeat (first | (with_reducible first | exact HB.out | apply below_alloc | apply pw_below_drewN | apply below_drew1 | refine below_set ?_ GE141.out | refine below_set ?_ GE142.out) | exact HB.out)⟩

end Go.Proofs.Ytgcagmmghckbbaa.A

/- Plain words on rounds: loops over a list by its index, in 'from some number of rounds on' form. No program in sight. -/
namespace Go.Proofs.YtgcagmmghckbbaaW.PrintMore
open Go.RowKit Go.Proofs.YtgcagmmghckbbaaW.PrintWords

theorem wrap_id {x : Int} (h0 : -9223372036854775808 ≤ x) (h1 : x ≤ 9223372036854775807) : wrap64 x = x := by unfold wrap64; omega
theorem wrap_succ (j : Nat) (h : j < 9223372036854775807) : wrap64 ((j : Int) + 1) = ((j + 1 : Nat) : Int) := by unfold wrap64; omega
theorem Ev.unfold {α : Type} {g f : Nat → Option α} {r : α} (h : ∀ k, g k = f k) (k : Ev f r) : Ev g r := Ev.congr h k
theorem Ev.val {α : Type} {g : Nat → Option α} {r : α} (h : ∀ k, g k = some r) : Ev g r := ⟨0, fun k _ => h k⟩
theorem Ev.bindc {α β : Type} {g : Option α} {f : Nat → α → Option β} {a : α} {r : β} (h : g = some a) (k : Ev (fun n => f n a) r) : Ev (fun n => g.bind (f n)) r := by
  subst h
  exact k
theorem Ev.succ {α : Type} {g : Nat → Option α} {r : α} (h : Ev (fun k => g (k + 1)) r) : Ev g r := Ev.step (fun _ => rfl) h
/-- A loop over a list by its index: from place j on it comes to 'v' of its state and of what is left. -/
theorem ev_list {α σ β : Type} (xs : List α) (l : σ → Int → Nat → Option β) (v : σ → List α → β)
    (hd : ∀ s, Ev (l s (xs.length : Int)) (v s []))
    (hs : ∀ s (j : Nat) (h : j < xs.length), (∀ s', Ev (l s' ((j + 1 : Nat) : Int)) (v s' (xs.drop (j + 1)))) → Ev (l s (j : Int)) (v s (xs[j] :: xs.drop (j + 1)))) :
    ∀ (n j : Nat) (s : σ), j + n = xs.length → Ev (l s (j : Int)) (v s (xs.drop j)) := by
  intro n
  induction n with
  | zero =>
    intro j s h
    have : j = xs.length := by omega
    subst this
    rw [List.drop_length]
    exact hd s
  | succ n ih =>
    intro j s h
    have hj : j < xs.length := by omega
    rw [List.drop_eq_getElem_cons hj]
    exact hs s j hj (fun s' => ih (j + 1) s' (by omega))
theorem ev_list0 {α σ β : Type} (xs : List α) (l : σ → Int → Nat → Option β) (v : σ → List α → β)
    (hd : ∀ s, Ev (l s (xs.length : Int)) (v s []))
    (hs : ∀ s (j : Nat) (h : j < xs.length), (∀ s', Ev (l s' ((j + 1 : Nat) : Int)) (v s' (xs.drop (j + 1)))) → Ev (l s (j : Int)) (v s (xs[j] :: xs.drop (j + 1)))) (s : σ) :
    Ev (l s 0) (v s xs) := by
  have := ev_list xs l v hd hs xs.length 0 s (by omega)
  simpa using this
/-- The same with an invariant of the state and the place. -/
theorem ev_listI {α σ β : Type} (xs : List α) (I : σ → Nat → Prop) (l : σ → Int → Nat → Option β) (v : σ → List α → β)
    (hd : ∀ s, I s xs.length → Ev (l s (xs.length : Int)) (v s []))
    (hs : ∀ s (j : Nat) (h : j < xs.length), I s j → (∀ s', I s' (j + 1) → Ev (l s' ((j + 1 : Nat) : Int)) (v s' (xs.drop (j + 1)))) → Ev (l s (j : Int)) (v s (xs[j] :: xs.drop (j + 1)))) :
    ∀ (n j : Nat) (s : σ), j + n = xs.length → I s j → Ev (l s (j : Int)) (v s (xs.drop j)) := by
  intro n
  induction n with
  | zero =>
    intro j s h hi
    have : j = xs.length := by omega
    subst this
    rw [List.drop_length]
    exact hd s hi
  | succ n ih =>
    intro j s h hi
    have hj : j < xs.length := by omega
    rw [List.drop_eq_getElem_cons hj]
    exact hs s j hj hi (fun s' hi' => ih (j + 1) s' (by omega) hi')
/-- A loop that counts from place j to n. -/
theorem ev_count {σ β : Type} (N : Nat) (l : σ → Int → Nat → Option β) (v : σ → Nat → β)
    (hd : ∀ s, Ev (l s (N : Int)) (v s N))
    (hs : ∀ s (j : Nat), j < N → (∀ s', Ev (l s' ((j + 1 : Nat) : Int)) (v s' (j + 1))) → Ev (l s (j : Int)) (v s j)) :
    ∀ (n j : Nat) (s : σ), j + n = N → Ev (l s (j : Int)) (v s j) := by
  intro n
  induction n with
  | zero =>
    intro j s h
    have : j = N := by omega
    subst this
    exact hd s
  | succ n ih =>
    intro j s h
    exact hs s j (by omega) (fun s' => ih (j + 1) s' (by omega))
/-- A loop over places: an invariant, what is to be known of the answer, early ends. -/
theorem ev_inv {σ β : Type} (N : Nat) (I : σ → Nat → Prop) (Q : β → Prop) (l : σ → Int → Nat → Option β)
    (hd : ∀ s, I s N → ∃ r, Q r ∧ Ev (l s (N : Int)) r)
    (hs : ∀ s (j : Nat), j < N → I s j → (∃ r, Q r ∧ Ev (l s (j : Int)) r) ∨ ∃ s', I s' (j + 1) ∧ ∀ r, Ev (l s' ((j + 1 : Nat) : Int)) r → Ev (l s (j : Int)) r) :
    ∀ (n j : Nat) (s : σ), j + n = N → I s j → ∃ r, Q r ∧ Ev (l s (j : Int)) r := by
  intro n
  induction n with
  | zero =>
    intro j s h hi
    have : j = N := by omega
    subst this
    exact hd s hi
  | succ n ih =>
    intro j s h hi
    rcases hs s j (by omega) hi with h1 | ⟨s', hi', h1⟩
    · exact h1
    · obtain ⟨r, hq, hr⟩ := ih (j + 1) s' (by omega) hi'
      exact ⟨r, hq, h1 r hr⟩
theorem ev_inv0 {σ β : Type} (N : Nat) (I : σ → Nat → Prop) (Q : β → Prop) (l : σ → Int → Nat → Option β)
    (hd : ∀ s, I s N → ∃ r, Q r ∧ Ev (l s (N : Int)) r)
    (hs : ∀ s (j : Nat), j < N → I s j → (∃ r, Q r ∧ Ev (l s (j : Int)) r) ∨ ∃ s', I s' (j + 1) ∧ ∀ r, Ev (l s' ((j + 1 : Nat) : Int)) r → Ev (l s (j : Int)) r)
    (s : σ) (h0 : I s 0) : ∃ r, Q r ∧ Ev (l s 0) r := ev_inv N I Q l hd hs N 0 s (by omega) h0
/-- The same where the answer is known. -/
theorem ev_at {σ β : Type} (N : Nat) (I : σ → Nat → Prop) (r : β) (l : σ → Int → Nat → Option β)
    (hd : ∀ s, I s N → Ev (l s (N : Int)) r)
    (hs : ∀ s (j : Nat), j < N → I s j → ∃ s', I s' (j + 1) ∧ (Ev (l s' ((j + 1 : Nat) : Int)) r → Ev (l s (j : Int)) r))
    (s : σ) (h0 : I s 0) : Ev (l s 0) r := by
  have key : ∀ (n j : Nat) (s : σ), j + n = N → I s j → Ev (l s (j : Int)) r := by
    intro n
    induction n with
    | zero =>
      intro j s h hi
      have : j = N := by omega
      subst this
      exact hd s hi
    | succ n ih =>
      intro j s h hi
      obtain ⟨s', hi', h1⟩ := hs s j (by omega) hi
      exact h1 (ih (j + 1) s' (by omega) hi')
  exact key N 0 s (by omega) h0
theorem set_fill {α β : Type} (f : α → β) (z : β) (xs : List α) (j : Nat) (h : j < xs.length) :
    ((xs.take j).map f ++ List.replicate (xs.length - j) z).set j (f xs[j]) = (xs.take (j + 1)).map f ++ List.replicate (xs.length - (j + 1)) z := by
  have hl : ((xs.take j).map f).length = j := by simp; omega
  rw [List.set_append_right _ _ (by omega), hl, Nat.sub_self, List.take_succ_eq_append_getElem h, List.map_append, List.append_assoc]
  obtain ⟨m, hm⟩ : ∃ m, xs.length - j = m + 1 := ⟨xs.length - j - 1, by omega⟩
  rw [hm, show xs.length - (j + 1) = m from by omega, List.replicate_succ, List.set_cons_zero]
  rfl
theorem rd_nat (xs : List Int) (j : Nat) (h : j < xs.length) : rd xs (j : Int) = xs[j] := by unfold rd; simp [h]
theorem getD_nat {α : Type} (xs : List α) (d : α) (j : Nat) (h : j < xs.length) : xs.getD ((j : Int).toNat) d = xs[j] := by simp [h]
theorem getD_at {α : Type} (xs : List α) (d : α) (j : Nat) (h : j < xs.length) : xs.getD j d = xs[j] := by simp [h]
end Go.Proofs.YtgcagmmghckbbaaW.PrintMore

/- Plain laws of the jigsaw's small functions: ranges, tiles, turns. No memory in sight. -/
namespace Go.Proofs.Ytgcagmmghckbbaa.A
open Go.RowKit Go.Proofs.YtgcagmmghckbbaaW.PrintWords Go.Proofs.YtgcagmmghckbbaaW.PrintLast Go.Proofs.YtgcagmmghckbbaaW.PrintMore

abbrev Tl := S24
def inB (x lo hi : Int) : Bool := decide (lo ≤ x) && decide (x ≤ hi)
theorem l01In_eq (a b c : Int) : spec_l01In.f a b c = some (inB a b c) := by
  unfold spec_l01In.f inB
  by_cases h : a ≥ b
  · rw [if_pos h]; simp; omega
  · rw [if_neg h]; simp; omega
theorem within_eq (a b c : Int) : impl_within.f a b c = some (inB a b c) := by
  unfold impl_within.f inB
  by_cases h : a ≥ b
  · rw [if_pos h]; simp; omega
  · rw [if_neg h]; simp; omega
def okE (x : Int) : Bool := inB x (-9) 9
def okT (t : Tl) : Bool := okE t.f0 && (okE t.f1 && (okE t.f2 && okE t.f3))
theorem isTile_eq (t : Tl) : impl_isTile.f t.f0 t.f1 t.f2 t.f3 = some (okT t) := by
  unfold impl_isTile.f okT okE
  simp only [within_eq, Option.bind_some]
  cases inB t.f0 (-9) 9 <;> cases inB t.f1 (-9) 9 <;> cases inB t.f2 (-9) 9 <;> simp
theorem notTile_eq : impl_areTiles.p = fun t => !okT t := by
  funext t
  unfold impl_areTiles.p
  rw [isTile_eq]
  rfl
theorem areTiles_eq (k : Nat) (l : List Tl) : impl_areTiles.f k l = some (l.all okT) := by
  unfold impl_areTiles.f
  rw [notTile_eq]
  simp [List.all_eq_not_any_not]
theorem l30Codes_eq (a b c d : Int) : spec_l30Codes.f a b c d = some [a, b, c, d] := rfl
theorem l30Valid_round (k : Nat) (x0 : List Tl) (x3 a b c d : Int) :
    spec_l30Valid.l1 (k + 5) x0 x3 [a, b, c, d] 0 = if okE a && (okE b && (okE c && okE d)) then spec_l30Valid.l0 k x0 (wrap64 (x3 + 1)) else some false := by
  simp only [spec_l30Valid.l1, l01In_eq, Option.bind_some, rd]
  cases ha : okE a <;> cases hb : okE b <;> cases hc : okE c <;> cases hd : okE d <;> simp_all [okE, wrap64]
theorem l30Valid_ev (xs : List Tl) (h : xs.length ≤ maxLen) : Ev (fun k => spec_l30Valid.f k xs) (xs.all okT) := by
  unfold spec_l30Valid.f
  unfold maxLen at h
  refine ev_list0 xs (fun (_ : Unit) i k => spec_l30Valid.l0 k xs i) (fun _ l => l.all okT) (fun _ => ?_) (fun _ j hj ih => ?_) ()
  · exact Ev.step (f := fun _ => some true) (fun k => by simp only [spec_l30Valid.l0]; rw [if_neg (by omega)]) (Ev.now _)
  · refine Ev.step (f := fun k => spec_l30Valid.l1 k xs j [xs[j].f0, xs[j].f1, xs[j].f2, xs[j].f3] 0) (fun k => by
      simp only [spec_l30Valid.l0]
      rw [if_pos (by omega), if_pos (by omega)]
      simp only [l30Codes_eq, Option.bind_some, rd_T24, getD_nat xs _ j hj]) ?_
    obtain ⟨K, hK⟩ := ih ()
    refine ⟨K + 5, fun k hk => ?_⟩
    obtain ⟨m, rfl⟩ : ∃ m, k = m + 5 := ⟨k - 5, by omega⟩
    show spec_l30Valid.l1 (m + 5) _ _ _ _ = _
    rw [l30Valid_round, wrap_succ j (by omega), List.all_cons]
    show (if okT xs[j] = true then _ else _) = _
    cases okT xs[j]
    · rfl
    · simp only [if_true, Bool.true_and]
      exact hK m (by omega)
def turnT (t : Tl) (n : Int) : Tl := if n = 0 then t else if n = 1 then ⟨t.f3, t.f0, t.f1, t.f2⟩ else if n = 2 then ⟨t.f2, t.f3, t.f0, t.f1⟩ else ⟨t.f1, t.f2, t.f3, t.f0⟩
def tup (t : Tl) : Int × Int × Int × Int := (t.f0, t.f1, t.f2, t.f3)
theorem l30Turn_eq (t : Tl) (n : Int) (h0 : 0 ≤ n) (h1 : n ≤ 3) : spec_l30Turn.f t.f0 t.f1 t.f2 t.f3 n = some (tup (turnT t n)) := by
  unfold spec_l30Turn.f
  rw [l30Codes_eq, Option.bind_some]
  have : n = 0 ∨ n = 1 ∨ n = 2 ∨ n = 3 := by omega
  rcases this with rfl | rfl | rfl | rfl <;> simp [wrap64, rd, turnT, tup]
theorem turnTile_at (t : Tl) (n : Int) (h0 : 0 ≤ n) (h1 : n ≤ 3) (k : Nat) : impl_turnTile.f (k + 4) t.f0 t.f1 t.f2 t.f3 n = some (tup (turnT t n)) := by
  unfold impl_turnTile.f
  have : n = 0 ∨ n = 1 ∨ n = 2 ∨ n = 3 := by omega
  rcases this with rfl | rfl | rfl | rfl <;> simp [impl_turnTile.l0, wrap64, turnT, tup]
theorem turnTile_ev (t : Tl) (n : Int) (h0 : 0 ≤ n) (h1 : n ≤ 3) : Ev (fun k => impl_turnTile.f k t.f0 t.f1 t.f2 t.f3 n) (tup (turnT t n)) :=
  ⟨4, fun k hk => by
    obtain ⟨m, rfl⟩ : ∃ m, k = m + 4 := ⟨k - 4, by omega⟩
    exact turnTile_at t n h0 h1 m⟩
def tileOut (t : Tl) (n : Int) : Int × Int × Int × Int × Int :=
  if okT t then if inB n 0 3 then ((turnT t n).f0, (turnT t n).f1, (turnT t n).f2, (turnT t n).f3, 0) else (0, 0, 0, 0, 2) else (0, 0, 0, 0, 1)
theorem inB_iff (x a b : Int) : inB x a b = true ↔ a ≤ x ∧ x ≤ b := by unfold inB; simp
theorem specTurnTile_ev (t : Tl) (n : Int) : Ev (fun k => spec_TurnTile.f k t.f0 t.f1 t.f2 t.f3 n) (tileOut t n) := by
  unfold spec_TurnTile.f tileOut
  refine Ev.bind (l30Valid_ev [t] (by simp [maxLen])) ?_
  cases ho : okT t
  · simp only [List.all_cons, ho]; exact Ev.now _
  · simp only [List.all_cons, ho, List.all_nil, Bool.and_self, if_true]
    refine Ev.bindc (l01In_eq n 0 3) ?_
    cases hb : inB n 0 3
    · exact Ev.now _
    · simp only [if_true]
      obtain ⟨h0, h1⟩ := (inB_iff _ _ _).1 hb
      exact Ev.bindc (l30Turn_eq t n h0 h1) (Ev.now _)
theorem implTurnTile_ev (t : Tl) (n : Int) : Ev (fun k => impl_TurnTile.f k t.f0 t.f1 t.f2 t.f3 n) (tileOut t n) := by
  unfold impl_TurnTile.f tileOut
  refine Ev.bindc (isTile_eq t) ?_
  cases ho : okT t
  · exact Ev.now _
  · simp only [if_true]
    refine Ev.bindc (within_eq n 0 3) ?_
    cases hb : inB n 0 3
    · exact Ev.now _
    · simp only [if_true]
      obtain ⟨h0, h1⟩ := (inB_iff _ _ _).1 hb
      exact Ev.bind (turnTile_ev t n h0 h1) (Ev.now _)
end Go.Proofs.Ytgcagmmghckbbaa.A

-- Printed by a program of this session (wip/tools/pp.py) over the kit's printer.
namespace Go.Proofs.Ytgcagmmghckbbaa.A
open Go.RowKit Go.Proofs.YtgcagmmghckbbaaW.PrintWords Go.Proofs.YtgcagmmghckbbaaW.PrintLast Go.Proofs.YtgcagmmghckbbaaW.PrintMore
attribute [local go_sem] max2_int min2_int max_two min_two max_three min_three max_four min_four   -- for this text's walks alone
set_option linter.unusedVariables false
set_option linter.unusedSimpArgs false

/-! ### spec_EdgeSum: function 18 -/
def spec_EdgeSum.l0 : Nat → List (S24) → Int → Int → Option (Int × Int)
  | 0, _, _, _ => none
  | k + 1, x0, x5, x6 => if x6 < (x0.length : Int) then (if 0 ≤ x6 then (spec_EdgeSum.l0 k x0 (wrap64 ((wrap64 ((wrap64 ((wrap64 (x5 + ((rd_T24 x0 x6).f0))) + ((rd_T24 x0 x6).f1))) + ((rd_T24 x0 x6).f2))) + ((rd_T24 x0 x6).f3))) (wrap64 (x6 + 1))) else (none)) else (some (x5, 0))
def spec_EdgeSum.f (k : Nat) (l0 : List (S24)) : Option (Int × Int) := (spec_l30Some.f k l0).bind fun t174 => (if t174 = 0 then (spec_EdgeSum.l0 k l0 0 0) else (some (0, t174)))
set_option maxHeartbeats 8000000 in
set_option maxRecDepth 100000 in
theorem spec_EdgeSum.calls (k : Nat) (A0 : Option Addr) (c0 : Nat) (l0 : List (S24)) (r1 : Int) (r2 : Int) (w : World) (hr0 : Kd.C k24 w A0 l0.length l0) (hc0 : l0.length ≤ c0) (h : spec_EdgeSum.f k l0 = some (r1, r2)) :
    Calls Try.prog 18 #[.slice A0 l0.length c0] w fun e w' => e = .returned (.tuple #[.int .i64 r1, .int .i64 r2]) ∧ Below w.heap.size w w' := by
  have HR0 := Aside0.mk hr0
  have HC0 := Aside0.mk hc0
  clear hr0 hc0
  have HB := Aside0.mk (Below.refl w.heap.size w)
  have H : ((spec_l30Some.f k l0).bind fun t174 => (if t174 = 0 then (spec_EdgeSum.l0 k l0 0 0) else (some (0, t174)))) = some (r1, r2) := h
  clear h
  replace H := Option.bind_eq_some_iff.mp H
  obtain ⟨t174, A20, H⟩ := H
  replace H : (if t174 = 0 then (spec_EdgeSum.l0 k l0 0 0) else (some (0, t174))) = some (r1, r2) := H
  have A2 := Aside0.mk A20
  clear A20
  by_cases c3 : t174 = 0
  · rw [if_pos c3] at H
    have c3b0 : (t174 == 0) = true := beq_iff_eq.mpr c3
    have c3b1 : (t174 != 0) = false := bne_eq_false_iff_eq.mpr c3
    clear c3
    have H' := Aside0.mk H
    clear H
    go_enter Try.func18, Try.ntmps18
    go_wp2_with (first | (go_at_call 55; (with_reducible refine (spec_l30Some.calls k _ _ l0 t174 _ ?side1 ?side2 A2.out).mono ?_); (case side1 => repeat (first | exact HR0.out | (with_reducible refine Kd.C_alloc ?_ _) | (with_reducible refine Kd.C_drewN ?_ _) | (with_reducible refine Kd.C_drew ?_))); (case side2 => exact HC0.out); rintro e w4 ⟨rfl, hb⟩; have n0_ := Aside0.mk (below_step (by repeat (first | (with_reducible first | exact HB.out | apply below_alloc | apply pw_below_drewN | apply below_drew1) | exact HB.out)) hb); clear HB; have HB := n0_; clear n0_; (try clear hb); (try clear hb2); (try clear hk); (try clear hi)))
    repeat (go_quiet (first | (go_at_call 55; (with_reducible refine (spec_l30Some.calls k _ _ l0 t174 _ ?side1 ?side2 A2.out).mono ?_); (case side1 => repeat (first | exact HR0.out | (with_reducible refine Kd.C_alloc ?_ _) | (with_reducible refine Kd.C_drewN ?_ _) | (with_reducible refine Kd.C_drew ?_))); (case side2 => exact HC0.out); rintro e w4 ⟨rfl, hb⟩; have n0_ := Aside0.mk (below_step (by repeat (first | (with_reducible first | exact HB.out | apply below_alloc | apply pw_below_drewN | apply below_drew1) | exact HB.out)) hb); clear HB; have HB := n0_; clear n0_; (try clear hb); (try clear hb2); (try clear hk); (try clear hi))); try go_wp2_with (first | (go_at_call 55; (with_reducible refine (spec_l30Some.calls k _ _ l0 t174 _ ?side1 ?side2 A2.out).mono ?_); (case side1 => repeat (first | exact HR0.out | (with_reducible refine Kd.C_alloc ?_ _) | (with_reducible refine Kd.C_drewN ?_ _) | (with_reducible refine Kd.C_drew ?_))); (case side2 => exact HC0.out); rintro e w4 ⟨rfl, hb⟩; have n0_ := Aside0.mk (below_step (by repeat (first | (with_reducible first | exact HB.out | apply below_alloc | apply pw_below_drewN | apply below_drew1) | exact HB.out)) hb); clear HB; have HB := n0_; clear n0_; (try clear hb); (try clear hb2); (try clear hk); (try clear hi))))
    go_loopg [5, 6] k (fun kq v5 v6 w' => ∃ (x5_1 : Int) (x6_1 : Int), v5 = .int .i64 x5_1 ∧ v6 = .int .i64 x6_1 ∧ Aside0 (spec_EdgeSum.l0 kq l0 x5_1 x6_1 = some (r1, r2)) ∧ Aside0 (kq ≤ k) ∧ Aside0 (Below w.heap.size w w'))
    case atStart => exact ⟨(0), (0), (by first | rfl | (simp; done) | (simp [*]; done)), (by first | rfl | (simp; done) | (simp [*]; done)), H', ⟨Nat.le_refl _⟩, ⟨by repeat (first | (with_reducible first | exact HB.out | apply below_alloc | apply pw_below_drewN | apply below_drew1) | exact HB.out)⟩⟩
    case round =>
      clear H'
      try clear c1
      try clear p2
      try clear c3
      try clear c3b0
      try clear c3b1
      obtain ⟨x5_1, x6_1, rfl, rfl, HA, HK1, HB⟩ := hrel
      cases gk with
      | zero => exact absurd HA.out (by simp [spec_EdgeSum.l0])
      | succ k1 =>
        have H := HA.out
        clear HA
        simp only [spec_EdgeSum.l0] at H
        by_cases c5 : x6_1 < (l0.length : Int)
        · rw [if_pos c5] at H
          have c5b0 : decide (x6_1 < (l0.length : Int)) = true := decide_eq_true c5
          clear c5
          by_cases c6 : 0 ≤ x6_1
          · rw [if_pos c6] at H
            have c6b0 : decide (0 ≤ x6_1) = true := decide_eq_true c6
            clear c6
            have H' := Aside0.mk H
            clear H
            have p175 : 0 ≤ (x6_1 : Int) := of_decide_eq_true (by first | (with_reducible assumption) | assumption)
            have q175 : x6_1 < (l0.length : Int) := of_decide_eq_true (by first | (with_reducible assumption) | assumption)
            obtain ⟨ad175, e175, hx175_0, hx175_1, hx175_2, hx175_3⟩ := at_T24 HR0.out x6_1 p175 q175
            cases e175
            replace hx175_0 := (HB.out.cell (World.block_lt_of_cell? w _ hx175_0)).trans hx175_0
            replace hx175_1 := (HB.out.cell (World.block_lt_of_cell? w _ hx175_1)).trans hx175_1
            replace hx175_2 := (HB.out.cell (World.block_lt_of_cell? w _ hx175_2)).trans hx175_2
            replace hx175_3 := (HB.out.cell (World.block_lt_of_cell? w _ hx175_3)).trans hx175_3
            replace p175 := eq_true p175
            replace q175 := eq_true q175
            have p176 : 0 ≤ (x6_1 : Int) := of_decide_eq_true (by first | (with_reducible assumption) | assumption)
            have q176 : x6_1 < (l0.length : Int) := of_decide_eq_true (by first | (with_reducible assumption) | assumption)
            obtain ⟨ad176, e176, hx176_0, hx176_1, hx176_2, hx176_3⟩ := at_T24 HR0.out x6_1 p176 q176
            obtain rfl : ad175 = ad176 := (by injection e176)
            replace hx176_0 := (HB.out.cell (World.block_lt_of_cell? w _ hx176_0)).trans hx176_0
            replace hx176_1 := (HB.out.cell (World.block_lt_of_cell? w _ hx176_1)).trans hx176_1
            replace hx176_2 := (HB.out.cell (World.block_lt_of_cell? w _ hx176_2)).trans hx176_2
            replace hx176_3 := (HB.out.cell (World.block_lt_of_cell? w _ hx176_3)).trans hx176_3
            replace p176 := eq_true p176
            replace q176 := eq_true q176
            have p177 : 0 ≤ (x6_1 : Int) := of_decide_eq_true (by first | (with_reducible assumption) | assumption)
            have q177 : x6_1 < (l0.length : Int) := of_decide_eq_true (by first | (with_reducible assumption) | assumption)
            obtain ⟨ad177, e177, hx177_0, hx177_1, hx177_2, hx177_3⟩ := at_T24 HR0.out x6_1 p177 q177
            obtain rfl : ad175 = ad177 := (by injection e177)
            replace hx177_0 := (HB.out.cell (World.block_lt_of_cell? w _ hx177_0)).trans hx177_0
            replace hx177_1 := (HB.out.cell (World.block_lt_of_cell? w _ hx177_1)).trans hx177_1
            replace hx177_2 := (HB.out.cell (World.block_lt_of_cell? w _ hx177_2)).trans hx177_2
            replace hx177_3 := (HB.out.cell (World.block_lt_of_cell? w _ hx177_3)).trans hx177_3
            replace p177 := eq_true p177
            replace q177 := eq_true q177
            have p178 : 0 ≤ (x6_1 : Int) := of_decide_eq_true (by first | (with_reducible assumption) | assumption)
            have q178 : x6_1 < (l0.length : Int) := of_decide_eq_true (by first | (with_reducible assumption) | assumption)
            obtain ⟨ad178, e178, hx178_0, hx178_1, hx178_2, hx178_3⟩ := at_T24 HR0.out x6_1 p178 q178
            obtain rfl : ad175 = ad178 := (by injection e178)
            replace hx178_0 := (HB.out.cell (World.block_lt_of_cell? w _ hx178_0)).trans hx178_0
            replace hx178_1 := (HB.out.cell (World.block_lt_of_cell? w _ hx178_1)).trans hx178_1
            replace hx178_2 := (HB.out.cell (World.block_lt_of_cell? w _ hx178_2)).trans hx178_2
            replace hx178_3 := (HB.out.cell (World.block_lt_of_cell? w _ hx178_3)).trans hx178_3
            replace p178 := eq_true p178
            replace q178 := eq_true q178
            go_wp2
            repeat (go_quiet (fail); try go_wp2)
            go_roundg k1
            case measure => have := HK1.out; omega
            case rel => exact ⟨(wrap64 ((wrap64 ((wrap64 ((wrap64 (x5_1 + ((rd_T24 l0 x6_1).f0))) + ((rd_T24 l0 x6_1).f1))) + ((rd_T24 l0 x6_1).f2))) + ((rd_T24 l0 x6_1).f3))), (wrap64 (x6_1 + 1)), (by first | rfl | (simp; done) | (simp [*]; done)), (by first | rfl | (simp; done) | (simp [*]; done)), H', ⟨by have := HK1.out; omega⟩, ⟨by repeat (first | (with_reducible first | exact HB.out | apply below_alloc | apply pw_below_drewN | apply below_drew1) | exact HB.out)⟩⟩
          · rw [if_neg c6] at H
            exact absurd H (by simp)
        · rw [if_neg c5] at H
          have c5b0 : decide (x6_1 < (l0.length : Int)) = false := decide_eq_false c5
          clear c5
          simp only [Option.some.injEq, Prod.mk.injEq] at H
          obtain ⟨rfl, rfl⟩ := H
          go_wp2
          repeat (go_quiet (fail); try go_wp2)
          go_ret2
          exact ⟨by first | rfl | (simp [errW_none, errW_some] <;> rfl) | (simp [*, errW_none, errW_some] <;> rfl), by repeat (first | (with_reducible first | exact HB.out | apply below_alloc | apply pw_below_drewN | apply below_drew1) | exact HB.out)⟩
  · rw [if_neg c3] at H
    have c3b0 : (t174 == 0) = false := beq_eq_false_iff_ne.mpr c3
    have c3b1 : (t174 != 0) = true := bne_iff_ne.mpr c3
    simp only [Option.some.injEq, Prod.mk.injEq] at H
    obtain ⟨rfl, rfl⟩ := H
    go_enter Try.func18, Try.ntmps18
    go_wp2_with (first | (go_at_call 55; (with_reducible refine (spec_l30Some.calls k _ _ l0 t174 _ ?side1 ?side2 A2.out).mono ?_); (case side1 => repeat (first | exact HR0.out | (with_reducible refine Kd.C_alloc ?_ _) | (with_reducible refine Kd.C_drewN ?_ _) | (with_reducible refine Kd.C_drew ?_))); (case side2 => exact HC0.out); rintro e w7 ⟨rfl, hb⟩; have n0_ := Aside0.mk (below_step (by repeat (first | (with_reducible first | exact HB.out | apply below_alloc | apply pw_below_drewN | apply below_drew1) | exact HB.out)) hb); clear HB; have HB := n0_; clear n0_; (try clear hb); (try clear hb2); (try clear hk); (try clear hi)))
    repeat (go_quiet (first | (go_at_call 55; (with_reducible refine (spec_l30Some.calls k _ _ l0 t174 _ ?side1 ?side2 A2.out).mono ?_); (case side1 => repeat (first | exact HR0.out | (with_reducible refine Kd.C_alloc ?_ _) | (with_reducible refine Kd.C_drewN ?_ _) | (with_reducible refine Kd.C_drew ?_))); (case side2 => exact HC0.out); rintro e w7 ⟨rfl, hb⟩; have n0_ := Aside0.mk (below_step (by repeat (first | (with_reducible first | exact HB.out | apply below_alloc | apply pw_below_drewN | apply below_drew1) | exact HB.out)) hb); clear HB; have HB := n0_; clear n0_; (try clear hb); (try clear hb2); (try clear hk); (try clear hi))); try go_wp2_with (first | (go_at_call 55; (with_reducible refine (spec_l30Some.calls k _ _ l0 t174 _ ?side1 ?side2 A2.out).mono ?_); (case side1 => repeat (first | exact HR0.out | (with_reducible refine Kd.C_alloc ?_ _) | (with_reducible refine Kd.C_drewN ?_ _) | (with_reducible refine Kd.C_drew ?_))); (case side2 => exact HC0.out); rintro e w7 ⟨rfl, hb⟩; have n0_ := Aside0.mk (below_step (by repeat (first | (with_reducible first | exact HB.out | apply below_alloc | apply pw_below_drewN | apply below_drew1) | exact HB.out)) hb); clear HB; have HB := n0_; clear n0_; (try clear hb); (try clear hb2); (try clear hk); (try clear hi))))
    go_ret2
    exact ⟨by first | rfl | (simp [errW_none, errW_some] <;> rfl) | (simp [*, errW_none, errW_some] <;> rfl), by repeat (first | (with_reducible first | exact HB.out | apply below_alloc | apply pw_below_drewN | apply below_drew1) | exact HB.out)⟩

end Go.Proofs.Ytgcagmmghckbbaa.A

-- Printed by a program of this session (wip/tools/pp.py) over the kit's printer.
namespace Go.Proofs.Ytgcagmmghckbbaa.A
open Go.RowKit Go.Proofs.YtgcagmmghckbbaaW.PrintWords Go.Proofs.YtgcagmmghckbbaaW.PrintLast Go.Proofs.YtgcagmmghckbbaaW.PrintMore
attribute [local go_sem] max2_int min2_int max_two min_two max_three min_three max_four min_four   -- for this text's walks alone
set_option linter.unusedVariables false
set_option linter.unusedSimpArgs false

/-! ### impl_EdgeSum: function 20 -/
def impl_EdgeSum.l0 : Nat → Int → List (S24) → Int → Int → Option (Int × Int)
  | 0, _, _, _, _ => none
  | k + 1, x5, x13, x14, x15 => if x15 < x14 then (if 0 ≤ x15 then (if x15 < (x13.length : Int) then (impl_EdgeSum.l0 k (wrap64 (x5 + (wrap64 ((wrap64 ((wrap64 (((rd_T24 x13 x15).f0) + ((rd_T24 x13 x15).f1))) + ((rd_T24 x13 x15).f2))) + ((rd_T24 x13 x15).f3))))) x13 x14 (wrap64 (x15 + 1))) else (none)) else (none)) else (some (x5, 0))
def impl_EdgeSum.f (k : Nat) (l0 : List (S24)) : Option (Int × Int) := (impl_tilesCode.f k l0).bind fun t195 => (if t195 = 0 then (impl_EdgeSum.l0 k 0 l0 (l0.length : Int) 0) else (some (0, t195)))
set_option maxHeartbeats 8000000 in
set_option maxRecDepth 100000 in
theorem impl_EdgeSum.calls (k : Nat) (A0 : Option Addr) (c0 : Nat) (l0 : List (S24)) (r1 : Int) (r2 : Int) (w : World) (hr0 : Kd.C k24 w A0 l0.length l0) (hc0 : l0.length ≤ c0) (h : impl_EdgeSum.f k l0 = some (r1, r2)) :
    Calls Try.prog 20 #[.slice A0 l0.length c0] w fun e w' => e = .returned (.tuple #[.int .i64 r1, .int .i64 r2]) ∧ Below w.heap.size w w' := by
  have hu24 := Try.underlying24
  have HR0 := Aside0.mk hr0
  have HC0 := Aside0.mk hc0
  clear hr0 hc0
  have HB := Aside0.mk (Below.refl w.heap.size w)
  have H : ((impl_tilesCode.f k l0).bind fun t195 => (if t195 = 0 then (impl_EdgeSum.l0 k 0 l0 (l0.length : Int) 0) else (some (0, t195)))) = some (r1, r2) := h
  clear h
  replace H := Option.bind_eq_some_iff.mp H
  obtain ⟨t195, A20, H⟩ := H
  replace H : (if t195 = 0 then (impl_EdgeSum.l0 k 0 l0 (l0.length : Int) 0) else (some (0, t195))) = some (r1, r2) := H
  have A2 := Aside0.mk A20
  clear A20
  have H0_ := Aside0.mk H
  clear H
  go_enter Try.func20, Try.ntmps20
  go_wp2_with (first | ((with_reducible refine gate_callee (f := 56) rfl ?_); refine goesL_ (some 9) rfl rfl Try.func56 (by kernel_rfl) rfl #[.slice A0 l0.length c0] rfl (by (try simp only [List.map_toArray, List.map_cons, List.map_nil]); first | done | rfl | (simp only [List.length_drop, List.length_take]; rfl)) ?_; (with_reducible refine (impl_tilesCode.calls k _ _ l0 t195 _ ?side1 ?side2 A2.out).mono ?_); (case side1 => repeat (first | exact HR0.out | (with_reducible refine Kd.C_alloc ?_ _) | (with_reducible refine Kd.C_drewN ?_ _) | (with_reducible refine Kd.C_drew ?_))); (case side2 => exact HC0.out); rintro e w3 ⟨rfl, hb⟩; refine ⟨_, rfl, ?_⟩; have n0_ := Aside0.mk (below_step (by repeat (first | (with_reducible first | exact HB.out | apply below_alloc | apply pw_below_drewN | apply below_drew1) | exact HB.out)) hb); clear HB; have HB := n0_; clear n0_; (try clear hb); (try clear hb2); (try clear hk); (try clear hi); refine Stop0.out ?_))
  refine Stop0.mk ?_
  have H := H0_.out
  clear H0_
  by_cases c4 : t195 = 0
  · rw [if_pos c4] at H
    have c4b0 : (t195 == 0) = true := beq_iff_eq.mpr c4
    have c4b1 : (t195 != 0) = false := bne_eq_false_iff_eq.mpr c4
    clear c4
    have H' := Aside0.mk H
    clear H
    go_wp2
    go_loopg [5, 15] k (fun kq v5 v15 w' => ∃ (x5_1 : Int) (x15_1 : Int), v5 = .int .i64 x5_1 ∧ v15 = .int .i64 x15_1 ∧ Aside0 (impl_EdgeSum.l0 kq x5_1 l0 (l0.length : Int) x15_1 = some (r1, r2)) ∧ Aside0 (kq ≤ k) ∧ Aside0 (Below w.heap.size w w'))
    case atStart => exact ⟨(0), (0), (by first | rfl | (simp; done) | (simp [*]; done)), (by first | rfl | (simp; done) | (simp [*]; done)), H', ⟨Nat.le_refl _⟩, ⟨by repeat (first | (with_reducible first | exact HB.out | apply below_alloc | apply pw_below_drewN | apply below_drew1) | exact HB.out)⟩⟩
    case round =>
      clear H'
      try clear c2
      try clear p2
      try clear c4
      try clear c4b0
      try clear c4b1
      obtain ⟨x5_1, x15_1, rfl, rfl, HA, HK1, HB⟩ := hrel
      cases gk with
      | zero => exact absurd HA.out (by simp [impl_EdgeSum.l0])
      | succ k1 =>
        have H := HA.out
        clear HA
        simp only [impl_EdgeSum.l0] at H
        by_cases c5 : x15_1 < (l0.length : Int)
        · rw [if_pos c5] at H
          have c5b0 : decide (x15_1 < (l0.length : Int)) = true := decide_eq_true c5
          clear c5
          by_cases c6 : 0 ≤ x15_1
          · rw [if_pos c6] at H
            have c6b0 : decide (0 ≤ x15_1) = true := decide_eq_true c6
            clear c6
            by_cases c7 : x15_1 < (l0.length : Int)
            · rw [if_pos c7] at H
              have c7b0 : decide (x15_1 < (l0.length : Int)) = true := decide_eq_true c7
              clear c7
              have H' := Aside0.mk H
              clear H
              have p196 : 0 ≤ (x15_1 : Int) := of_decide_eq_true (by first | (with_reducible assumption) | assumption)
              have q196 : x15_1 < (l0.length : Int) := of_decide_eq_true (by first | (with_reducible assumption) | assumption)
              obtain ⟨ad196, e196, hx196_0, hx196_1, hx196_2, hx196_3⟩ := at_T24 HR0.out x15_1 p196 q196
              cases e196
              replace hx196_0 := (HB.out.cell (World.block_lt_of_cell? w _ hx196_0)).trans hx196_0
              replace hx196_1 := (HB.out.cell (World.block_lt_of_cell? w _ hx196_1)).trans hx196_1
              replace hx196_2 := (HB.out.cell (World.block_lt_of_cell? w _ hx196_2)).trans hx196_2
              replace hx196_3 := (HB.out.cell (World.block_lt_of_cell? w _ hx196_3)).trans hx196_3
              replace p196 := eq_true p196
              replace q196 := eq_true q196
              go_wp2_with (first | ((with_reducible refine gate_dst (N := 7) rfl ?_); refine box_event ?hg (N := 7) ?hd (cs := #[.int .i64 0, .int .i64 0, .int .i64 0, .int .i64 0]) (t := 24) ?hr ?_; (case hd => rfl); (case hg => rfl); (case hr => first | (go_simp; done) | (go_simp; rfl)); intro gb197 hg w8 hbox hb; have n0_ := Aside0.mk (below_step (by repeat (first | (with_reducible first | exact HB.out | apply below_alloc | apply pw_below_drewN | apply below_drew1) | exact HB.out)) hb); have n1_ := Aside0.mk (hbox); have n2_ := Aside0.mk ((by rw [hg]; exact (below_size (by repeat (first | (with_reducible first | exact HB.out | apply below_alloc | apply pw_below_drewN | apply below_drew1) | exact HB.out))) : w.heap.size ≤ gb197)); have n3_ := Aside0.mk ((by rw [hg]; exact (below_size (by repeat (first | (with_reducible first | exact HB.out | apply below_alloc | apply pw_below_drewN | apply below_drew1) | exact HB.out))) : w.heap.size ≤ gb197)); clear HB; have HB := n0_; have BK197 := n1_; have GW197 := n2_; have GE197 := n3_; clear n0_ n1_ n2_ n3_; clear hb hbox hg; have hcz9_0 : w8.cell? ⟨gb197, 0, none⟩ = some (.int .i64 0) := (blk_cell BK197.out 0).trans rfl; have hcz9_1 : w8.cell? ⟨gb197, 1, none⟩ = some (.int .i64 0) := (blk_cell BK197.out 1).trans rfl; have hcz9_2 : w8.cell? ⟨gb197, 2, none⟩ = some (.int .i64 0) := (blk_cell BK197.out 2).trans rfl; have hcz9_3 : w8.cell? ⟨gb197, 3, none⟩ = some (.int .i64 0) := (blk_cell BK197.out 3).trans rfl; have hfz9_0 := blk_frozen BK197.out 0; have hfz9_1 := blk_frozen BK197.out 1; have hfz9_2 := blk_frozen BK197.out 2; have hfz9_3 := blk_frozen BK197.out 3))
              go_roundg k1
              case measure => have := HK1.out; omega
              case rel => exact ⟨(wrap64 (x5_1 + (wrap64 ((wrap64 ((wrap64 (((rd_T24 l0 x15_1).f0) + ((rd_T24 l0 x15_1).f1))) + ((rd_T24 l0 x15_1).f2))) + ((rd_T24 l0 x15_1).f3))))), (wrap64 (x15_1 + 1)), (by first | rfl | (simp; done) | (simp [*]; done)), (by first | rfl | (simp; done) | (simp [*]; done)), H', ⟨by have := HK1.out; omega⟩, ⟨by repeat (first | (with_reducible first | exact HB.out | apply below_alloc | apply pw_below_drewN | apply below_drew1 | refine below_set ?_ GE197.out) | exact HB.out)⟩⟩
            · rw [if_neg c7] at H
              exact absurd H (by simp)
          · rw [if_neg c6] at H
            exact absurd H (by simp)
        · rw [if_neg c5] at H
          have c5b0 : decide (x15_1 < (l0.length : Int)) = false := decide_eq_false c5
          clear c5
          simp only [Option.some.injEq, Prod.mk.injEq] at H
          obtain ⟨rfl, rfl⟩ := H
          go_wp2
          go_ret2
          exact ⟨by first | rfl | (simp [errW_none, errW_some] <;> rfl) | (simp [*, errW_none, errW_some] <;> rfl), by repeat (first | (with_reducible first | exact HB.out | apply below_alloc | apply pw_below_drewN | apply below_drew1) | exact HB.out)⟩
  · rw [if_neg c4] at H
    have c4b0 : (t195 == 0) = false := beq_eq_false_iff_ne.mpr c4
    have c4b1 : (t195 != 0) = true := bne_iff_ne.mpr c4
    simp only [Option.some.injEq, Prod.mk.injEq] at H
    obtain ⟨rfl, rfl⟩ := H
    go_wp2
    go_ret2
    exact ⟨by first | rfl | (simp [errW_none, errW_some] <;> rfl) | (simp [*, errW_none, errW_some] <;> rfl), by repeat (first | (with_reducible first | exact HB.out | apply below_alloc | apply pw_below_drewN | apply below_drew1) | exact HB.out)⟩

end Go.Proofs.Ytgcagmmghckbbaa.A

-- Printed by a program of this session (wip/tools/pp.py) over the kit's printer.
namespace Go.Proofs.Ytgcagmmghckbbaa.A
open Go.RowKit Go.Proofs.YtgcagmmghckbbaaW.PrintWords Go.Proofs.YtgcagmmghckbbaaW.PrintLast Go.Proofs.YtgcagmmghckbbaaW.PrintMore
attribute [local go_sem] max2_int min2_int max_two min_two max_three min_three max_four min_four   -- for this text's walks alone
set_option linter.unusedVariables false
set_option linter.unusedSimpArgs false

/-! ### laws_FnExactEdgeSum: function 4 -/
def laws_FnExactEdgeSum.j0 : Nat → List (S23) → List (S24) → Bool → Option (Bool)
  | 0, _, _, _ => none
  | k + 1, x0, x6, x34 => if x34 = true then (some false) else ((laws_toTileS.f k x0).bind fun t212 => ((laws_eqTileS.f k x6 t212).bind fun t215 => (if t215 = true then (some true) else (some false))))
def laws_FnExactEdgeSum.f (k : Nat) (l0 : List (S23)) : Option (Bool) := (laws_szTileS.f l0 1048576).bind fun t201 => (if t201 < 0 then (some true) else ((laws_toTileS.f k l0).bind fun t202 => ((spec_EdgeSum.f k t202).bind fun bt205 => ((laws_toTileS.f k l0).bind fun t207 => ((impl_EdgeSum.f k t207).bind fun bt210 => (if bt210.1 = bt205.1 then (laws_FnExactEdgeSum.j0 k l0 t207 (bt210.2 != bt205.2)) else (laws_FnExactEdgeSum.j0 k l0 t207 true)))))))
set_option maxHeartbeats 8000000 in
set_option maxRecDepth 100000 in
theorem laws_FnExactEdgeSum.calls (k : Nat) (A0 : Option Addr) (c0 : Nat) (l0 : List (S23)) (r : Bool) (w : World) (hr0 : Kd.C k23 w A0 l0.length l0) (hc0 : l0.length ≤ c0) (h : laws_FnExactEdgeSum.f k l0 = some r) :
    Calls Try.prog 4 #[.slice A0 l0.length c0] w fun e w' => e = .returned (.bool r) ∧ Below w.heap.size w w' := by
  have HR0 := Aside0.mk hr0
  have HC0 := Aside0.mk hc0
  clear hr0 hc0
  have HB := Aside0.mk (Below.refl w.heap.size w)
  have H : ((laws_szTileS.f l0 1048576).bind fun t201 => (if t201 < 0 then (some true) else ((laws_toTileS.f k l0).bind fun t202 => ((spec_EdgeSum.f k t202).bind fun bt205 => ((laws_toTileS.f k l0).bind fun t207 => ((impl_EdgeSum.f k t207).bind fun bt210 => (if bt210.1 = bt205.1 then (laws_FnExactEdgeSum.j0 k l0 t207 (bt210.2 != bt205.2)) else (laws_FnExactEdgeSum.j0 k l0 t207 true)))))))) = some r := h
  clear h
  replace H := Option.bind_eq_some_iff.mp H
  obtain ⟨t201, A20, H⟩ := H
  replace H : (if t201 < 0 then (some true) else ((laws_toTileS.f k l0).bind fun t202 => ((spec_EdgeSum.f k t202).bind fun bt205 => ((laws_toTileS.f k l0).bind fun t207 => ((impl_EdgeSum.f k t207).bind fun bt210 => (if bt210.1 = bt205.1 then (laws_FnExactEdgeSum.j0 k l0 t207 (bt210.2 != bt205.2)) else (laws_FnExactEdgeSum.j0 k l0 t207 true))))))) = some r := H
  have A2 := Aside0.mk A20
  clear A20
  have H0_ := Aside0.mk H
  clear H
  go_enter Try.func4, Try.ntmps4
  go_wp2_with (first | ((with_reducible refine gate_callee (f := 17) rfl ?_); refine goesL_ (some 11) rfl rfl Try.func17 (by kernel_rfl) rfl #[.slice A0 l0.length c0, .int .i64 1048576] rfl (by (try simp only [List.map_toArray, List.map_cons, List.map_nil]); first | done | rfl | (simp only [List.length_drop, List.length_take]; rfl)) ?_; (with_reducible refine (laws_szTileS.calls _ _ l0 1048576 t201 _ ?side1 ?side2 A2.out).mono ?_); (case side1 => repeat (first | exact HR0.out | (with_reducible refine Kd.C_alloc ?_ _) | (with_reducible refine Kd.C_drewN ?_ _) | (with_reducible refine Kd.C_drew ?_))); (case side2 => exact HC0.out); rintro e w' ⟨rfl, ⟨nd, rfl⟩⟩; refine ⟨_, rfl, ?_⟩; refine Stop0.out ?_))
  refine Stop0.mk ?_
  have H := H0_.out
  clear H0_
  by_cases c3 : t201 < 0
  · rw [if_pos c3] at H
    have c3b0 : decide (t201 < 0) = true := decide_eq_true c3
    clear c3
    obtain rfl := Option.some.inj H
    go_wp2
    go_ret
    exact ⟨by first | rfl | (simp [errW_none, errW_some] <;> rfl) | (simp [*, errW_none, errW_some] <;> rfl), by repeat (first | (with_reducible first | exact HB.out | apply below_alloc | apply pw_below_drewN | apply below_drew1) | exact HB.out)⟩
  · rw [if_neg c3] at H
    have c3b0 : decide (t201 < 0) = false := decide_eq_false c3
    clear c3
    replace H := Option.bind_eq_some_iff.mp H
    obtain ⟨t202, A40, H⟩ := H
    replace H : ((spec_EdgeSum.f k t202).bind fun bt205 => ((laws_toTileS.f k l0).bind fun t207 => ((impl_EdgeSum.f k t207).bind fun bt210 => (if bt210.1 = bt205.1 then (laws_FnExactEdgeSum.j0 k l0 t207 (bt210.2 != bt205.2)) else (laws_FnExactEdgeSum.j0 k l0 t207 true))))) = some r := H
    have A4 := Aside0.mk A40
    clear A40
    have H0_ := Aside0.mk H
    clear H
    go_wp2_with (first | ((with_reducible refine gate_callee (f := 19) rfl ?_); refine goesL_ (some 16) rfl rfl Try.func19 (by kernel_rfl) rfl #[.slice A0 l0.length c0] rfl (by (try simp only [List.map_toArray, List.map_cons, List.map_nil]); first | done | rfl | (simp only [List.length_drop, List.length_take]; rfl)) ?_; (with_reducible refine (laws_toTileS.calls k _ _ l0 t202 _ ?side1 ?side2 A4.out).mono ?_); (case side1 => repeat (first | exact (Kd.C_below HR0.out HB.out) | (with_reducible refine Kd.C_alloc ?_ _) | (with_reducible refine Kd.C_drewN ?_ _) | (with_reducible refine Kd.C_drew ?_))); (case side2 => exact HC0.out); rintro e w5 ⟨v203, rfl, ho0, hb⟩; refine ⟨_, rfl, ?_⟩; have n0_ := Aside0.mk (Kd.R_lower ho0 (below_size (by repeat (first | (with_reducible first | exact HB.out | apply below_alloc | apply pw_below_drewN | apply below_drew1) | exact HB.out)))); have n1_ := Aside0.mk (below_step (by repeat (first | (with_reducible first | exact HB.out | apply below_alloc | apply pw_below_drewN | apply below_drew1) | exact HB.out)) hb); clear HB; have HO204 := n0_; have HB := n1_; clear n0_ n1_; (try clear hb); (try clear hb2); (try clear hk); (try clear hi); (try clear ho0); refine Stop0.out ?_))
    refine Stop0.mk ?_
    have H := H0_.out
    clear H0_
    replace H := Option.bind_eq_some_iff.mp H
    obtain ⟨⟨t205, t206⟩, A60, H⟩ := H
    replace H : ((laws_toTileS.f k l0).bind fun t207 => ((impl_EdgeSum.f k t207).bind fun bt210 => (if bt210.1 = t205 then (laws_FnExactEdgeSum.j0 k l0 t207 (bt210.2 != t206)) else (laws_FnExactEdgeSum.j0 k l0 t207 true)))) = some r := H
    have A6 := Aside0.mk A60
    clear A60
    have H0_ := Aside0.mk H
    clear H
    obtain ⟨Ao7, co7, eo7⟩ := Kd.R_slice HO204.out
    subst eo7
    go_wp2_with (first | ((with_reducible refine gate_callee (f := 18) rfl ?_); refine goesL_ (some 17) rfl rfl Try.func18 (by kernel_rfl) rfl #[.slice Ao7 t202.length co7] rfl (by (try simp only [List.map_toArray, List.map_cons, List.map_nil]); first | done | rfl | (simp only [List.length_drop, List.length_take]; rfl)) ?_; (with_reducible refine (spec_EdgeSum.calls k _ _ t202 t205 t206 _ ?side1 ?side2 A6.out).mono ?_); (case side1 => repeat (first | exact (Kd.R_reads' HO204.out).2.2 | (with_reducible refine Kd.C_alloc ?_ _) | (with_reducible refine Kd.C_drewN ?_ _) | (with_reducible refine Kd.C_drew ?_))); (case side2 => exact (Kd.R_reads' HO204.out).2.1); rintro e w8 ⟨rfl, hb⟩; refine ⟨_, rfl, ?_⟩; have n0_ := Aside0.mk (Kd.R_below (by (with_reducible repeat (first | apply Kd.R_alloc | apply Kd.R_drewN | apply Kd.R_drew)); exact HO204.out) hb); have n1_ := Aside0.mk (below_step (by repeat (first | (with_reducible first | exact HB.out | apply below_alloc | apply pw_below_drewN | apply below_drew1) | exact HB.out)) hb); clear HO204; clear HB; have HO204 := n0_; have HB := n1_; clear n0_ n1_; (try clear hb); (try clear hb2); (try clear hk); (try clear hi); refine Stop0.out ?_))
    refine Stop0.mk ?_
    have H := H0_.out
    clear H0_
    replace H := Option.bind_eq_some_iff.mp H
    obtain ⟨t207, A90, H⟩ := H
    replace H : ((impl_EdgeSum.f k t207).bind fun bt210 => (if bt210.1 = t205 then (laws_FnExactEdgeSum.j0 k l0 t207 (bt210.2 != t206)) else (laws_FnExactEdgeSum.j0 k l0 t207 true))) = some r := H
    have A9 := Aside0.mk A90
    clear A90
    have H0_ := Aside0.mk H
    clear H
    go_wp2_with (first | ((with_reducible refine gate_callee (f := 19) rfl ?_); refine goesL_ (some 21) rfl rfl Try.func19 (by kernel_rfl) rfl #[.slice A0 l0.length c0] rfl (by (try simp only [List.map_toArray, List.map_cons, List.map_nil]); first | done | rfl | (simp only [List.length_drop, List.length_take]; rfl)) ?_; (with_reducible refine (laws_toTileS.calls k _ _ l0 t207 _ ?side1 ?side2 A9.out).mono ?_); (case side1 => repeat (first | exact (Kd.C_below HR0.out HB.out) | (with_reducible refine Kd.C_alloc ?_ _) | (with_reducible refine Kd.C_drewN ?_ _) | (with_reducible refine Kd.C_drew ?_))); (case side2 => exact HC0.out); rintro e w10 ⟨v208, rfl, ho0, hb⟩; refine ⟨_, rfl, ?_⟩; have n0_ := Aside0.mk (Kd.R_elder' (by (with_reducible repeat (first | apply Kd.R_alloc | apply Kd.R_drewN | apply Kd.R_drew)); exact HO204.out) (Kd.R_base ho0) hb); have n1_ := Aside0.mk (Kd.R_lower (Kd.R_new' ho0 (Kd.R_lt (by (with_reducible repeat (first | apply Kd.R_alloc | apply Kd.R_drewN | apply Kd.R_drew)); exact HO204.out))) (below_size (by repeat (first | (with_reducible first | exact HB.out | apply below_alloc | apply pw_below_drewN | apply below_drew1) | exact HB.out)))); have n2_ := Aside0.mk (below_step (by repeat (first | (with_reducible first | exact HB.out | apply below_alloc | apply pw_below_drewN | apply below_drew1) | exact HB.out)) hb); clear HO204; clear HB; have HO204 := n0_; have HO209 := n1_; have HB := n2_; clear n0_ n1_ n2_; (try clear hb); (try clear hb2); (try clear hk); (try clear hi); (try clear ho0); refine Stop0.out ?_))
    refine Stop0.mk ?_
    have H := H0_.out
    clear H0_
    replace H := Option.bind_eq_some_iff.mp H
    obtain ⟨⟨t210, t211⟩, A110, H⟩ := H
    replace H : (if t210 = t205 then (laws_FnExactEdgeSum.j0 k l0 t207 (t211 != t206)) else (laws_FnExactEdgeSum.j0 k l0 t207 true)) = some r := H
    have A11 := Aside0.mk A110
    clear A110
    have H0_ := Aside0.mk H
    clear H
    obtain ⟨Ao12, co12, eo12⟩ := Kd.R_slice HO209.out
    subst eo12
    go_wp2_with (first | ((with_reducible refine gate_callee (f := 20) rfl ?_); refine goesL_ (some 24) rfl rfl Try.func20 (by kernel_rfl) rfl #[.slice Ao12 t207.length co12] rfl (by (try simp only [List.map_toArray, List.map_cons, List.map_nil]); first | done | rfl | (simp only [List.length_drop, List.length_take]; rfl)) ?_; (with_reducible refine (impl_EdgeSum.calls k _ _ t207 t210 t211 _ ?side1 ?side2 A11.out).mono ?_); (case side1 => repeat (first | exact (Kd.R_reads' HO209.out).2.2 | (with_reducible refine Kd.C_alloc ?_ _) | (with_reducible refine Kd.C_drewN ?_ _) | (with_reducible refine Kd.C_drew ?_))); (case side2 => exact (Kd.R_reads' HO209.out).2.1); rintro e w13 ⟨rfl, hb⟩; refine ⟨_, rfl, ?_⟩; have n0_ := Aside0.mk (Kd.R_below (by (with_reducible repeat (first | apply Kd.R_alloc | apply Kd.R_drewN | apply Kd.R_drew)); exact HO204.out) hb); have n1_ := Aside0.mk (Kd.R_below (by (with_reducible repeat (first | apply Kd.R_alloc | apply Kd.R_drewN | apply Kd.R_drew)); exact HO209.out) hb); have n2_ := Aside0.mk (below_step (by repeat (first | (with_reducible first | exact HB.out | apply below_alloc | apply pw_below_drewN | apply below_drew1) | exact HB.out)) hb); clear HO204; clear HO209; clear HB; have HO204 := n0_; have HO209 := n1_; have HB := n2_; clear n0_ n1_ n2_; (try clear hb); (try clear hb2); (try clear hk); (try clear hi); refine Stop0.out ?_))
    refine Stop0.mk ?_
    have H := H0_.out
    clear H0_
    have HC14 := Aside0.mk H
    clear H
    go_upto_region 8 with (fail)
    go_cut [34] (fun v34 wc => ∃ (kq : Nat) (x34_13 : Bool), v34 = .bool x34_13 ∧ Aside0 (laws_FnExactEdgeSum.j0 kq l0 t207 x34_13 = some r) ∧ Aside0 (kq ≤ k) ∧ Aside0 (Kd.R k24 24 wc w.heap.size (fun _ => True) (.slice Ao12 t207.length co12) t207) ∧ Aside0 (Below w.heap.size w wc))
    case first =>
      have H := HC14.out
      clear HC14
      by_cases c15 : t210 = t205
      · rw [if_pos c15] at H
        have c15b0 : (t210 == t205) = true := beq_iff_eq.mpr c15
        have c15b1 : (t210 != t205) = false := bne_eq_false_iff_eq.mpr c15
        clear c15
        (first | rw [c15b0] | (simp only [i64_w, i32_w]; rw [c15b0]) | skip)
        have H' := Aside0.mk H
        clear H
        go_wp2
        go_meet
        case rel => exact ⟨_, ((t211 != t206)), (by first | rfl | (simp; done) | (simp [*]; done)), H', ⟨by first | omega | exact Nat.le_refl _⟩, ⟨by (with_reducible repeat (first | apply Kd.R_alloc | apply Kd.R_drewN | apply Kd.R_drew)); exact Kd.R_mono HO209.out (fun _ hk => trivial)⟩, ⟨by repeat (first | (with_reducible first | exact HB.out | apply below_alloc | apply pw_below_drewN | apply below_drew1) | exact HB.out)⟩⟩
      · rw [if_neg c15] at H
        have c15b0 : (t210 == t205) = false := beq_eq_false_iff_ne.mpr c15
        have c15b1 : (t210 != t205) = true := bne_iff_ne.mpr c15
        (first | rw [c15b0] | (simp only [i64_w, i32_w]; rw [c15b0]) | skip)
        have H' := Aside0.mk H
        clear H
        go_wp2
        go_meet
        case rel => exact ⟨_, (true), (by first | rfl | (simp; done) | (simp [*]; done)), H', ⟨by first | omega | exact Nat.le_refl _⟩, ⟨by (with_reducible repeat (first | apply Kd.R_alloc | apply Kd.R_drewN | apply Kd.R_drew)); exact Kd.R_mono HO209.out (fun _ hk => trivial)⟩, ⟨by repeat (first | (with_reducible first | exact HB.out | apply below_alloc | apply pw_below_drewN | apply below_drew1) | exact HB.out)⟩⟩
    case rest =>
      clear HC14
      try clear c1
      try clear c2
      try clear p2
      try clear c3
      try clear c3b0
      try clear c4
      try clear c15
      try clear c15b0
      try clear c15b1
      obtain ⟨kq, x34_13, rfl, HA, HJ13, HO_6, HB⟩ := hcut
      cases kq with
      | zero => exact absurd HA.out (by simp [laws_FnExactEdgeSum.j0])
      | succ kj13 =>
        have H := HA.out
        clear HA
        simp only [laws_FnExactEdgeSum.j0] at H
        by_cases c16 : x34_13 = true
        · subst c16
          have H1 : (some false) = some r := by rw [if_pos rfl] at H; exact H
          clear H
          have H := H1
          clear H1
          obtain rfl := Option.some.inj H
          go_wp2
          go_ret
          exact ⟨by first | rfl | (simp [errW_none, errW_some] <;> rfl) | (simp [*, errW_none, errW_some] <;> rfl), by repeat (first | (with_reducible first | exact HB.out | apply below_alloc | apply pw_below_drewN | apply below_drew1) | exact HB.out)⟩
        · replace c16 := Bool.eq_false_iff.mpr c16
          subst c16
          have H1 : ((laws_toTileS.f kj13 l0).bind fun t212 => ((laws_eqTileS.f kj13 t207 t212).bind fun t215 => (if t215 = true then (some true) else (some false)))) = some r := by rw [if_neg (show ¬ (false = true) by decide)] at H; exact H
          clear H
          have H := H1
          clear H1
          replace H := Option.bind_eq_some_iff.mp H
          obtain ⟨t212, A170, H⟩ := H
          replace H : ((laws_eqTileS.f kj13 t207 t212).bind fun t215 => (if t215 = true then (some true) else (some false))) = some r := H
          have A17 := Aside0.mk A170
          clear A170
          have H0_ := Aside0.mk H
          clear H
          go_wp2_with (first | ((with_reducible refine gate_callee (f := 19) rfl ?_); refine goesL_ (some 37) rfl rfl Try.func19 (by kernel_rfl) rfl #[.slice A0 l0.length c0] rfl (by (try simp only [List.map_toArray, List.map_cons, List.map_nil]); first | done | rfl | (simp only [List.length_drop, List.length_take]; rfl)) ?_; (with_reducible refine (laws_toTileS.calls kj13 _ _ l0 t212 _ ?side1 ?side2 A17.out).mono ?_); (case side1 => repeat (first | exact (Kd.C_below HR0.out HB.out) | (with_reducible refine Kd.C_alloc ?_ _) | (with_reducible refine Kd.C_drewN ?_ _) | (with_reducible refine Kd.C_drew ?_))); (case side2 => exact HC0.out); rintro e w18 ⟨v213, rfl, ho0, hb⟩; refine ⟨_, rfl, ?_⟩; have n0_ := Aside0.mk (Kd.R_elder' (by (with_reducible repeat (first | apply Kd.R_alloc | apply Kd.R_drewN | apply Kd.R_drew)); exact HO_6.out) (Kd.R_base ho0) hb); have n1_ := Aside0.mk (Kd.R_lower (Kd.R_new' ho0 (Kd.R_lt (by (with_reducible repeat (first | apply Kd.R_alloc | apply Kd.R_drewN | apply Kd.R_drew)); exact HO_6.out))) (below_size (by repeat (first | (with_reducible first | exact HB.out | apply below_alloc | apply pw_below_drewN | apply below_drew1) | exact HB.out)))); have n2_ := Aside0.mk (below_step (by repeat (first | (with_reducible first | exact HB.out | apply below_alloc | apply pw_below_drewN | apply below_drew1) | exact HB.out)) hb); clear HO_6; clear HB; have HO_6 := n0_; have HO214 := n1_; have HB := n2_; clear n0_ n1_ n2_; (try clear hb); (try clear hb2); (try clear hk); (try clear hi); (try clear ho0); refine Stop0.out ?_))
          refine Stop0.mk ?_
          have H := H0_.out
          clear H0_
          replace H := Option.bind_eq_some_iff.mp H
          obtain ⟨t215, A190, H⟩ := H
          replace H : (if t215 = true then (some true) else (some false)) = some r := H
          have A19 := Aside0.mk A190
          clear A190
          have H0_ := Aside0.mk H
          clear H
          obtain ⟨Ao20, co20, eo20⟩ := Kd.R_slice HO214.out
          subst eo20
          go_wp2_with (first | ((with_reducible refine gate_callee (f := 21) rfl ?_); refine goesL_ (some 38) rfl rfl Try.func21 (by kernel_rfl) rfl #[.slice Ao12 t207.length co12, .slice Ao20 t212.length co20] rfl (by (try simp only [List.map_toArray, List.map_cons, List.map_nil]); first | done | rfl | (simp only [List.length_drop, List.length_take]; rfl)) ?_; (with_reducible refine (laws_eqTileS.calls kj13 _ _ t207 _ _ t212 t215 _ ?side1 ?side2 ?side3 ?side4 A19.out).mono ?_); (case side1 => repeat (first | exact (Kd.R_reads' HO_6.out).2.2 | (with_reducible refine Kd.C_alloc ?_ _) | (with_reducible refine Kd.C_drewN ?_ _) | (with_reducible refine Kd.C_drew ?_))); (case side2 => exact (Kd.R_reads' HO_6.out).2.1); (case side3 => repeat (first | exact (Kd.R_reads' HO214.out).2.2 | (with_reducible refine Kd.C_alloc ?_ _) | (with_reducible refine Kd.C_drewN ?_ _) | (with_reducible refine Kd.C_drew ?_))); (case side4 => exact (Kd.R_reads' HO214.out).2.1); rintro e w21 ⟨rfl, hb⟩; refine ⟨_, rfl, ?_⟩; have n0_ := Aside0.mk (Kd.R_below (by (with_reducible repeat (first | apply Kd.R_alloc | apply Kd.R_drewN | apply Kd.R_drew)); exact HO_6.out) hb); have n1_ := Aside0.mk (Kd.R_below (by (with_reducible repeat (first | apply Kd.R_alloc | apply Kd.R_drewN | apply Kd.R_drew)); exact HO214.out) hb); have n2_ := Aside0.mk (below_step (by repeat (first | (with_reducible first | exact HB.out | apply below_alloc | apply pw_below_drewN | apply below_drew1) | exact HB.out)) hb); clear HO_6; clear HO214; clear HB; have HO_6 := n0_; have HO214 := n1_; have HB := n2_; clear n0_ n1_ n2_; (try clear hb); (try clear hb2); (try clear hk); (try clear hi); refine Stop0.out ?_))
          refine Stop0.mk ?_
          have H := H0_.out
          clear H0_
          by_cases c22 : t215 = true
          · subst c22
            have H1 : (some true) = some r := by rw [if_pos rfl] at H; exact H
            clear H
            have H := H1
            clear H1
            obtain rfl := Option.some.inj H
            go_wp2
            go_ret
            exact ⟨by first | rfl | (simp [errW_none, errW_some] <;> rfl) | (simp [*, errW_none, errW_some] <;> rfl), by repeat (first | (with_reducible first | exact HB.out | apply below_alloc | apply pw_below_drewN | apply below_drew1) | exact HB.out)⟩
          · replace c22 := Bool.eq_false_iff.mpr c22
            subst c22
            have H1 : (some false) = some r := by rw [if_neg (show ¬ (false = true) by decide)] at H; exact H
            clear H
            have H := H1
            clear H1
            obtain rfl := Option.some.inj H
            go_wp2
            go_ret
            exact ⟨by first | rfl | (simp [errW_none, errW_some] <;> rfl) | (simp [*, errW_none, errW_some] <;> rfl), by repeat (first | (with_reducible first | exact HB.out | apply below_alloc | apply pw_below_drewN | apply below_drew1) | exact HB.out)⟩

end Go.Proofs.Ytgcagmmghckbbaa.A

/- Plain laws of what the laws do with tiles and numbers: copies, marks, comparisons; sums of edges, flat edges. -/
namespace Go.Proofs.Ytgcagmmghckbbaa.A
set_option linter.unusedSimpArgs false
set_option linter.unusedVariables false
open Go.RowKit Go.Proofs.YtgcagmmghckbbaaW.PrintWords Go.Proofs.YtgcagmmghckbbaaW.PrintLast Go.Proofs.YtgcagmmghckbbaaW.PrintMore

def toTl (x : S23) : Tl := ⟨x.f0, x.f1, x.f2, x.f3⟩
theorem toTileS_ev (l : List S23) (h : l.length ≤ 1048576) : Ev (fun k => laws_toTileS.f k l) (l.map toTl) := by
  unfold laws_toTileS.f
  simp only [Int.toNat_natCast, show (0 : Int) ≤ l.length from by omega, show l.length ≤ 8796093022208 from by omega, if_true]
  refine ev_at l.length (fun s j => s = (l.take j).map toTl ++ List.replicate (l.length - j) z24) (l.map toTl) (fun s i k => laws_toTileS.l0 k l s i) (fun s hi => ?_) (fun s j hj hi => ?_) _ (by simp)
  · refine Ev.step (f := fun _ => some s) (fun k => by simp only [laws_toTileS.l0]; rw [if_neg (by omega)]) ?_
    rw [hi]
    simpa using Ev.now _
  · have hl : s.length = l.length := by rw [hi]; simp; omega
    refine ⟨s.set j (toTl l[j]), by rw [hi]; exact set_fill toTl _ l j hj, fun h2 => Ev.step (fun k => ?_) h2⟩
    simp only [laws_toTileS.l0, laws_toTile.f, Option.bind_some]
    rw [if_pos (by omega), if_pos (by omega), if_pos (by omega), wrap_succ j (by omega)]
    simp only [rd_T23, getD_at l _ j hj, Int.toNat_natCast]
    rfl
theorem szTileS_in (l : List S23) (h : l.length ≤ 1048576) : laws_szTileS.f l 1048576 = some (1048576 - (l.length : Int)) := by
  unfold laws_szTileS.f
  rw [show wrap64 (1048576 - (l.length : Int)) = 1048576 - (l.length : Int) from by unfold wrap64; omega, if_neg (by omega)]
theorem szTileS_out (l : List S23) (hm : l.length ≤ maxLen) (h : ¬ l.length ≤ 1048576) : laws_szTileS.f l 1048576 = some (-1) := by
  unfold maxLen at hm
  unfold laws_szTileS.f
  rw [if_pos (by unfold wrap64; omega)]
theorem eqTileS_ev (l : List Tl) (h : l.length ≤ 1048576) : Ev (fun k => laws_eqTileS.f k l l) true := by
  unfold laws_eqTileS.f
  simp only [if_true]
  refine ev_at l.length (fun (_ : Unit) _ => True) true (fun _ i k => laws_eqTileS.l0 k l l i) (fun s hi => ?_) (fun s j hj hi => ?_) () trivial
  · exact Ev.step (f := fun _ => some true) (fun k => by simp only [laws_eqTileS.l0]; rw [if_neg (by omega)]) (Ev.now _)
  · refine ⟨(), trivial, fun h2 => Ev.step (fun k => ?_) h2⟩
    simp only [laws_eqTileS.l0, laws_eqTile.f, if_true, Option.bind_some]
    rw [if_pos (by omega), if_pos (by omega), if_pos (by omega), wrap_succ j (by omega)]
theorem markTileS_ev (l : List Tl) (h : l.length ≤ 1048576) : ∃ r, r.1 = 1 + 4 * (l.length : Int) ∧ Ev (fun k => laws_markTileS.f k l 1) r := by
  unfold laws_markTileS.f
  refine ev_inv0 l.length (fun (s : List Tl × Int) j => s.1.length = l.length ∧ s.2 = 1 + 4 * (j : Int)) (fun r => r.1 = 1 + 4 * (l.length : Int)) (fun s i k => laws_markTileS.l0 k s.1 s.2 i) (fun s hi => ?_) (fun s j hj hi => .inr ?_) (l, 1) ⟨rfl, by simp⟩
  · refine ⟨(s.2, s.1), by simp only; omega, Ev.step (f := fun _ => some (s.2, s.1)) (fun k => by simp only [laws_markTileS.l0]; rw [if_neg (by omega)]) (Ev.now _)⟩
  · have e : wrap64 (wrap64 (wrap64 (wrap64 (s.2 + 1) + 1) + 1) + 1) = s.2 + 4 := by have := hi.2; unfold wrap64; omega
    obtain ⟨X, hX, hl⟩ : ∃ X : List Tl, (∀ k, laws_markTileS.l0 (k + 1) s.1 s.2 (j : Int) = laws_markTileS.l0 k X (s.2 + 4) ((j + 1 : Nat) : Int)) ∧ X.length = s.1.length :=
      ⟨_, fun k => by
        simp only [laws_markTileS.l0, Option.bind_some]
        rw [if_pos (by omega), if_pos (by omega), wrap_succ j (by omega), e], by simp⟩
    exact ⟨(X, s.2 + 4), ⟨by simp only; omega, by simp only; omega⟩, fun r h2 => Ev.step hX h2⟩
def ints (c : Int) (n : Nat) : List Int := (List.range n).map fun (i : Nat) => c + (i : Int)
theorem ints_get (c : Int) (n j : Nat) (h : j < (ints c n).length) : (ints c n)[j] = c + j := by simp [ints]
theorem ints_len (c : Int) (n : Nat) : (ints c n).length = n := by simp [ints]
theorem markInt64S_ev (l : List Int) (h : l.length ≤ 1048576) : Ev (fun k => laws_markInt64S.f k l 1) (1 + (l.length : Int), ints 1 l.length) := by
  unfold laws_markInt64S.f
  refine ev_at l.length (fun (s : List Int × Int) j => s.1.length = l.length ∧ s.2 = 1 + (j : Int) ∧ s.1.take j = ints 1 j) (1 + (l.length : Int), ints 1 l.length) (fun s i k => laws_markInt64S.l0 k s.1 s.2 i) (fun s hi => ?_) (fun s j hj hi => ?_) (l, 1) ⟨rfl, by simp, by simp [ints]⟩
  · refine Ev.step (f := fun _ => some (s.2, s.1)) (fun k => by simp only [laws_markInt64S.l0]; rw [if_neg (by omega)]) ?_
    have h3 := hi.2.2
    rw [List.take_of_length_le (by omega)] at h3
    rw [hi.2.1, h3]
    exact Ev.now _
  · refine ⟨(s.1.set j s.2, s.2 + 1), ⟨by simp only [List.length_set]; exact hi.1, by simp only; omega, ?_⟩, fun h2 => Ev.step (fun k => ?_) h2⟩
    · have hl : j < (s.1.set j s.2).length := by rw [List.length_set]; omega
      simp only
      rw [List.take_succ_eq_append_getElem hl, List.getElem_set_self, List.take_set_of_le (Nat.le_refl j), hi.2.2, hi.2.1]
      simp [ints, List.range_succ]
    · simp only [laws_markInt64S.l0, Int.toNat_natCast]
      rw [if_pos (by omega), if_pos (by omega), wrap_succ j (by omega), show wrap64 (s.2 + 1) = s.2 + 1 from by have := hi.2.1; unfold wrap64; omega]
theorem heldInts_ev (n : Nat) (h : n ≤ 1048576) : Ev (fun k => laws_heldInt64S.f k (ints 1 n) 1) (1 + (n : Int)) := by
  unfold laws_heldInt64S.f
  refine ev_at n (fun (s : Int) j => s = 1 + (j : Int)) (1 + (n : Int)) (fun s i k => laws_heldInt64S.l0 k (ints 1 n) s i) (fun s hi => ?_) (fun s j hj hi => ?_) 1 (by simp)
  · exact Ev.step (f := fun _ => some s) (fun k => by simp only [laws_heldInt64S.l0]; rw [if_neg (by rw [ints_len]; omega)]) (by rw [hi]; exact Ev.now _)
  · refine ⟨s + 1, by omega, fun h2 => Ev.step (fun k => ?_) h2⟩
    simp only [laws_heldInt64S.l0]
    rw [if_pos (by rw [ints_len]; omega), if_pos (by omega), if_pos (by rw [rd_nat _ j (by rw [ints_len]; omega), ints_get]; omega), wrap_succ j (by omega), show wrap64 (s + 1) = s + 1 from by unfold wrap64; omega]
theorem eqInt64S_ev (l : List Int) (h : l.length ≤ 1048576) : Ev (fun k => laws_eqInt64S.f k l l) true := by
  unfold laws_eqInt64S.f
  simp only [if_true]
  refine ev_at l.length (fun (_ : Unit) _ => True) true (fun _ i k => laws_eqInt64S.l0 k l l i) (fun s hi => ?_) (fun s j hj hi => ?_) () trivial
  · exact Ev.step (f := fun _ => some true) (fun k => by simp only [laws_eqInt64S.l0]; rw [if_neg (by omega)]) (Ev.now _)
  · refine ⟨(), trivial, fun h2 => Ev.step (fun k => ?_) h2⟩
    simp only [laws_eqInt64S.l0, if_true]
    rw [if_pos (by omega), if_pos (by omega), if_pos (by omega), wrap_succ j (by omega)]
/-- The code of tiles alone. -/
def tilesC (l : List Tl) : Int := if l.all okT then if (l.length : Int) > 12 then 2 else 0 else 1
theorem l30Some_ev (l : List Tl) (h : l.length ≤ 1048576) : Ev (fun k => spec_l30Some.f k l) (tilesC l) := by
  unfold spec_l30Some.f tilesC
  refine Ev.bind (l30Valid_ev l (by simp [maxLen]; omega)) (Ev.val fun k => ?_)
  split <;> (try split) <;> rfl
theorem tilesCode_ev (l : List Tl) : Ev (fun k => impl_tilesCode.f k l) (tilesC l) := by
  unfold impl_tilesCode.f tilesC
  refine Ev.bind (Ev.val fun k => areTiles_eq k l) (Ev.val fun k => ?_)
  split <;> (try split) <;> rfl
def edges (s : Int) (l : List Tl) : Int := l.foldl (fun s t => wrap64 (s + t.f0 + t.f1 + t.f2 + t.f3)) s
def edgeOut (l : List Tl) : Int × Int := if tilesC l = 0 then (edges 0 l, 0) else (0, tilesC l)
theorem specEdgeSum_ev (l : List Tl) (h : l.length ≤ 1048576) : Ev (fun k => spec_EdgeSum.f k l) (edgeOut l) := by
  unfold spec_EdgeSum.f edgeOut
  refine Ev.bind (l30Some_ev l h) ?_
  by_cases c : tilesC l = 0
  · rw [if_pos c]
    simp only [c, if_true]
    refine ev_list0 l (fun s i k => spec_EdgeSum.l0 k l s i) (fun s r => (edges s r, 0)) (fun s => ?_) (fun s j hj ih => ?_) 0
    · exact Ev.step (f := fun _ => some (s, 0)) (fun k => by simp only [spec_EdgeSum.l0]; rw [if_neg (by omega)]) (Ev.now _)
    · refine Ev.step (fun k => ?_) (ih (wrap64 (s + l[j].f0 + l[j].f1 + l[j].f2 + l[j].f3)))
      simp only [spec_EdgeSum.l0, rd_T24, getD_nat l _ j hj]
      rw [if_pos (by omega), if_pos (by omega), wrap_succ j (by omega)]
      congr 1
      unfold wrap64
      omega
  · rw [if_neg c]
    exact Ev.val fun k => by rw [if_neg c]
theorem implEdgeSum_ev (l : List Tl) (h : l.length ≤ 1048576) : Ev (fun k => impl_EdgeSum.f k l) (edgeOut l) := by
  unfold impl_EdgeSum.f edgeOut
  refine Ev.bind (tilesCode_ev l) ?_
  by_cases c : tilesC l = 0
  · rw [if_pos c]
    simp only [c, if_true]
    refine ev_list0 l (fun s i k => impl_EdgeSum.l0 k s l (l.length : Int) i) (fun s r => (edges s r, 0)) (fun s => ?_) (fun s j hj ih => ?_) 0
    · exact Ev.step (f := fun _ => some (s, 0)) (fun k => by simp only [impl_EdgeSum.l0]; rw [if_neg (by omega)]) (Ev.now _)
    · refine Ev.step (fun k => ?_) (ih (wrap64 (s + l[j].f0 + l[j].f1 + l[j].f2 + l[j].f3)))
      simp only [impl_EdgeSum.l0, rd_T24, getD_nat l _ j hj]
      rw [if_pos (by omega), if_pos (by omega), if_pos (by omega), wrap_succ j (by omega)]
      congr 1
      unfold wrap64
      omega
  · rw [if_neg c]
    exact Ev.val fun k => by rw [if_neg c]
end Go.Proofs.Ytgcagmmghckbbaa.A

/- Plain laws of the flat edges. -/
namespace Go.Proofs.Ytgcagmmghckbbaa.A
set_option linter.unusedSimpArgs false
set_option linter.unusedVariables false
open Go.RowKit Go.Proofs.YtgcagmmghckbbaaW.PrintWords Go.Proofs.YtgcagmmghckbbaaW.PrintLast Go.Proofs.YtgcagmmghckbbaaW.PrintMore
def zc (a b c d : Int) : Nat := (if a = 0 then 1 else 0) + (if b = 0 then 1 else 0) + (if c = 0 then 1 else 0) + (if d = 0 then 1 else 0)
theorem zc_le (a b c d : Int) : zc a b c d ≤ 4 := by unfold zc; repeat' split
                                                     all_goals omega
def flatStep (s : List Int) (t : Tl) : List Int := s.set (zc t.f0 t.f1 t.f2 t.f3) (wrap64 (rd s (zc t.f0 t.f1 t.f2 t.f3 : Nat) + 1))
def flats (s : List Int) (l : List Tl) : List Int := l.foldl flatStep s
theorem flats_len (s : List Int) (l : List Tl) : (flats s l).length = s.length := by
  induction l generalizing s with
  | nil => rfl
  | cons t l ih =>
    show (flats (flatStep s t) l).length = _
    rw [ih]
    simp [flatStep]
def flatOut (l : List Tl) : List Int × Int := if tilesC l = 0 then (flats (List.replicate 5 0) l, 0) else ([], tilesC l)
theorem flatOut_len (l : List Tl) : (flatOut l).1.length ≤ 1048576 := by
  unfold flatOut
  split
  · simp only [flats_len]; simp
  · simp
theorem spec_l1 (k : Nat) (x0 : List Tl) (s : List Int) (x6 a b c d : Int) (hs : s.length = 5) :
    spec_FlatEdges.l1 (k + 5) x0 s x6 [a, b, c, d] 0 0 = spec_FlatEdges.l0 k x0 (s.set (zc a b c d) (wrap64 (rd s (zc a b c d : Nat) + 1))) (wrap64 (x6 + 1)) := by
  simp only [spec_FlatEdges.l1, rd, zc, hs]
  by_cases ha : a = 0 <;> by_cases hb : b = 0 <;> by_cases hc : c = 0 <;> by_cases hd : d = 0 <;> simp [ha, hb, hc, hd, wrap64, rd]
theorem impl_l1 (k : Nat) (x0 : List Tl) (s : List Int) (x18 x19 a b c d : Int) (hs : s.length = 5) :
    impl_FlatEdges.l1 (k + 5) s 0 x0 x18 x19 [a, b, c, d] 4 0 = impl_FlatEdges.l0 k (s.set (zc a b c d) (wrap64 (rd s (zc a b c d : Nat) + 1))) x0 x18 (wrap64 (x19 + 1)) := by
  simp only [impl_FlatEdges.l1, rd, zc, hs]
  by_cases ha : a = 0 <;> by_cases hb : b = 0 <;> by_cases hc : c = 0 <;> by_cases hd : d = 0 <;> simp [ha, hb, hc, hd, wrap64, rd]
theorem Ev.five {α : Type} {g f : Nat → Option α} {r : α} (h : ∀ k, g (k + 5) = f k) (k : Ev f r) : Ev g r := by
  obtain ⟨K, k⟩ := k
  refine ⟨K + 5, fun n hn => ?_⟩
  obtain ⟨m, rfl⟩ : ∃ m, n = m + 5 := ⟨n - 5, by omega⟩
  rw [h]
  exact k m (by omega)
theorem specFlatEdges_ev (l : List Tl) (h : l.length ≤ 1048576) : Ev (fun k => spec_FlatEdges.f k l) (flatOut l) := by
  unfold spec_FlatEdges.f flatOut
  refine Ev.bind (l30Some_ev l h) ?_
  by_cases c : tilesC l = 0
  · rw [if_pos c]
    simp only [c, if_true, show (5 : Nat) ≤ 35184372088832 from by decide]
    have := ev_listI l (fun (s : List Int) _ => s.length = 5) (fun s i k => spec_FlatEdges.l0 k l s i) (fun s r => (flats s r, 0)) (fun s hi => ?_) (fun s j hj hi ih => ?_) l.length 0 (List.replicate 5 0) (by omega) rfl
    · simpa using this
    · exact Ev.step (f := fun _ => some (s, 0)) (fun k => by simp only [spec_FlatEdges.l0]; rw [if_neg (by omega)]) (Ev.now _)
    · refine Ev.step (f := fun k => spec_FlatEdges.l1 k l s j [l[j].f0, l[j].f1, l[j].f2, l[j].f3] 0 0) (fun k => ?_) ?_
      · simp only [spec_FlatEdges.l0, rd_T24, getD_nat l _ j hj, l30Codes_eq, Option.bind_some]
        rw [if_pos (by omega), if_pos (by omega)]
      · refine Ev.five (fun k => (spec_l1 k l s j _ _ _ _ hi).trans ?_) (ih (flatStep s l[j]) (by simp [flatStep, hi]))
        rw [wrap_succ j (by omega)]
        rfl
  · rw [if_neg c]
    exact Ev.val fun k => by rw [if_neg c]
theorem implFlatEdges_ev (l : List Tl) (h : l.length ≤ 1048576) : Ev (fun k => impl_FlatEdges.f k l) (flatOut l) := by
  unfold impl_FlatEdges.f flatOut
  refine Ev.bind (tilesCode_ev l) ?_
  by_cases c : tilesC l = 0
  · rw [if_pos c]
    simp only [c, if_true, show (5 : Nat) ≤ 35184372088832 from by decide]
    have := ev_listI l (fun (s : List Int) _ => s.length = 5) (fun s i k => impl_FlatEdges.l0 k s l (l.length : Int) i) (fun s r => (flats s r, 0)) (fun s hi => ?_) (fun s j hj hi ih => ?_) l.length 0 (List.replicate 5 0) (by omega) rfl
    · simpa using this
    · exact Ev.step (f := fun _ => some (s, 0)) (fun k => by simp only [impl_FlatEdges.l0]; rw [if_neg (by omega)]) (Ev.now _)
    · refine Ev.step (f := fun k => impl_FlatEdges.l1 k s 0 l l.length j [l[j].f0, l[j].f1, l[j].f2, l[j].f3] 4 0) (fun k => ?_) ?_
      · simp only [impl_FlatEdges.l0, rd_T24, getD_nat l _ j hj, Option.bind_some]
        rw [if_pos (by omega), if_pos (by omega), if_pos (by omega)]
        rfl
      · refine Ev.five (fun k => (impl_l1 k l s _ j _ _ _ _ hi).trans ?_) (ih (flatStep s l[j]) (by simp [flatStep, hi]))
        rw [wrap_succ j (by omega)]
        rfl
  · rw [if_neg c]
    exact Ev.val fun k => by rw [if_neg c]
end Go.Proofs.Ytgcagmmghckbbaa.A

/- FlatEdges: the program's counts are the reference's; what it hands back is its own. -/
namespace Go.Proofs.Ytgcagmmghckbbaa.Pure
open Go.RowKit Go.Proofs.YtgcagmmghckbbaaW.PrintWords Go.Proofs.YtgcagmmghckbbaaW.PrintLast Go.Proofs.YtgcagmmghckbbaaW.PrintMore Go.Proofs.Ytgcagmmghckbbaa.A
theorem FnExactFlatEdges : Go.Proofs.Ytgcagmmghckbbaa.A.FnExactFlatEdges.Pure := by
  intro l hl
  apply Ev.rounds
  unfold laws_FnExactFlatEdges.f
  have hm := hl.1
  by_cases c : l.length ≤ 1048576
  · refine Ev.bindc (szTileS_in l c) ?_
    simp only [show ¬ ((1048576 - (l.length : Int)) < 0) from by omega, if_false]
    have hc : (l.map toTl).length ≤ 1048576 := by simpa using c
    have hf := flatOut_len (l.map toTl)
    obtain ⟨r, hr0, hr⟩ := markTileS_ev (l.map toTl) hc
    refine Ev.bind (toTileS_ev l c) (Ev.bind (specFlatEdges_ev _ hc) (Ev.bind (toTileS_ev l c) (Ev.bind (implFlatEdges_ev _ hc) (Ev.bind (eqInt64S_ev _ hf) ?_))))
    simp only [if_true, bne_self_eq_false]
    refine Ev.step (fun k => by simp only [laws_FnExactFlatEdges.j0, Bool.false_eq_true, if_false]; rfl) ?_
    refine Ev.bind (toTileS_ev l c) (Ev.bind (eqTileS_ev _ hc) ?_)
    simp only [if_true]
    refine Ev.bind hr ?_
    simp only [show ¬ (r.1 < 0) from by omega, if_false]
    refine Ev.bind (eqInt64S_ev _ hf) ?_
    simp only [if_true, bne_self_eq_false]
    refine Ev.step (fun k => by simp only [laws_FnExactFlatEdges.j1, Bool.false_eq_true, if_false]; rfl) ?_
    refine Ev.bind (markInt64S_ev _ hf) (Ev.bind (heldInts_ev _ hf) ?_)
    simp only [if_true, show ¬ ((1 + ((flatOut (l.map toTl)).1.length : Int)) < 0) from by omega, if_false]
    refine Ev.bind (toTileS_ev l c) (Ev.bind (implFlatEdges_ev _ hc) (Ev.bind (eqInt64S_ev _ hf) ?_))
    simp only [if_true, bne_self_eq_false]
    refine Ev.step (fun k => by simp only [laws_FnExactFlatEdges.j2, Bool.false_eq_true, if_false]; rfl) ?_
    refine Ev.bind (heldInts_ev _ hf) (Ev.val fun k => ?_)
    simp only [if_true, show ¬ ((1 + ((flatOut (l.map toTl)).1.length : Int)) < 0) from by omega, if_false]
  · exact Ev.bindc (szTileS_out l hm c) (Ev.val fun k => by simp)
end Go.Proofs.Ytgcagmmghckbbaa.Pure

