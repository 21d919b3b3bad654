/- What the row of the law FnTileEdges stands on, part 3. -/
import Derived.Test.YtgcagmmghckbbaaMFnTileEdges2
namespace Go.Proofs.Ytgcagmmghckbbaa.A
open Go.RowKit Go.Proofs.YtgcagmmghckbbaaW.PrintWords Go.Proofs.YtgcagmmghckbbaaW.PrintLast Go.Proofs.YtgcagmmghckbbaaW.PrintMore
attribute [local go_sem] max2_int min2_int max_two min_two max_three min_three max_four min_four   -- for this text's walks alone
set_option linter.unusedVariables false
set_option linter.unusedSimpArgs false

def spec_DrawEdgeSum.f (k : Nat) (l0 : List Int) : Option ((List (S24))) := (spec_l01From.f k l0).bind fun bt401 => ((spec_l01Next.f bt401.1 bt401.2.1 bt401.2.2 30).bind fun bt405 => (if bt405.1 = 0 then ((spec_l01Next.f bt401.1 bt405.2.1 bt405.2.2 2).bind fun bt408 => (if 0 ≤ (wrap64 (12 + bt408.1)) then (if (wrap64 (12 + bt408.1) : Int).toNat ≤ 8796093022208 then (some (List.replicate (wrap64 (12 + bt408.1) : Int).toNat z24)) else (none)) else (none))) else ((spec_l30Draw.f k bt401.1 bt405.2.1 bt405.2.2).bind fun bt414 => (some bt414.1))))
set_option maxHeartbeats 8000000 in
set_option maxRecDepth 100000 in
theorem spec_DrawEdgeSum.calls (k : Nat) (A0 : Option Addr) (c0 : Nat) (l0 : List Int) (r : List (S24)) (w : World) (hr0 : Kd.C (Kd.int .u8) w A0 l0.length l0) (hc0 : l0.length ≤ c0) (h : spec_DrawEdgeSum.f k l0 = some r) :
    Calls Try.prog 58 #[.slice A0 l0.length c0] w fun e w' => ∃ v0_ : Value, e = .returned (v0_) ∧ Kd.Q k24 24 w' w.heap.size (fun _ => True) v0_ r ∧ Below w.heap.size w w' := by
  have HR0 := Aside0.mk hr0
  have HC0 := Aside0.mk hc0
  clear hr0 hc0
  have HB := Aside0.mk (Below.refl w.heap.size w)
  have H : ((spec_l01From.f k l0).bind fun bt401 => ((spec_l01Next.f bt401.1 bt401.2.1 bt401.2.2 30).bind fun bt405 => (if bt405.1 = 0 then ((spec_l01Next.f bt401.1 bt405.2.1 bt405.2.2 2).bind fun bt408 => (if 0 ≤ (wrap64 (12 + bt408.1)) then (if (wrap64 (12 + bt408.1) : Int).toNat ≤ 8796093022208 then (some (List.replicate (wrap64 (12 + bt408.1) : Int).toNat z24)) else (none)) else (none))) else ((spec_l30Draw.f k bt401.1 bt405.2.1 bt405.2.2).bind fun bt414 => (some bt414.1))))) = some r := h
  clear h
  replace H := Option.bind_eq_some_iff.mp H
  obtain ⟨⟨t401, t402, t403⟩, A20, H⟩ := H
  replace H : ((spec_l01Next.f t401 t402 t403 30).bind fun bt405 => (if bt405.1 = 0 then ((spec_l01Next.f t401 bt405.2.1 bt405.2.2 2).bind fun bt408 => (if 0 ≤ (wrap64 (12 + bt408.1)) then (if (wrap64 (12 + bt408.1) : Int).toNat ≤ 8796093022208 then (some (List.replicate (wrap64 (12 + bt408.1) : Int).toNat z24)) else (none)) else (none))) else ((spec_l30Draw.f k t401 bt405.2.1 bt405.2.2).bind fun bt414 => (some bt414.1)))) = some r := H
  have A2 := Aside0.mk A20
  clear A20
  have H0_ := Aside0.mk H
  clear H
  go_enter Try.func58, Try.ntmps58
  go_wp2_with (first | ((with_reducible refine gate_callee (f := 72) rfl ?_); refine goesL_ (some 8) rfl rfl Try.func72 (by kernel_rfl) rfl #[.slice A0 l0.length c0] rfl (by (try simp only [List.map_toArray, List.map_cons, List.map_nil]); first | done | rfl | (simp only [List.length_drop, List.length_take]; rfl)) ?_; (with_reducible refine (spec_l01From.calls k _ _ l0 t401 t402 t403 w _ ?side1 ?side2 ?side3 A2.out).mono ?_); (case side1 => repeat (first | (with_reducible first | exact HB.out | apply below_alloc | apply pw_below_drewN | apply below_drew1) | exact HB.out)); (case side2 => exact HR0.out); (case side3 => exact HC0.out); rintro e w3 ⟨g404, rfl, hi, hb, hb2⟩; refine ⟨_, rfl, ?_⟩; have n0_ := Aside0.mk (hb); have n1_ := Aside0.mk (hi); clear HB; have HB := n0_; have HI404 := n1_; clear n0_ n1_; (try clear hb); (try clear hb2); (try clear hk); (try clear hi); refine Stop0.out ?_))
  refine Stop0.mk ?_
  have H := H0_.out
  clear H0_
  replace H := Option.bind_eq_some_iff.mp H
  obtain ⟨⟨t405, t406, t407⟩, A40, H⟩ := H
  replace H : (if t405 = 0 then ((spec_l01Next.f t401 t406 t407 2).bind fun bt408 => (if 0 ≤ (wrap64 (12 + bt408.1)) then (if (wrap64 (12 + bt408.1) : Int).toNat ≤ 8796093022208 then (some (List.replicate (wrap64 (12 + bt408.1) : Int).toNat z24)) else (none)) else (none))) else ((spec_l30Draw.f k t401 t406 t407).bind fun bt414 => (some bt414.1))) = some r := H
  have A4 := Aside0.mk A40
  clear A40
  have H0_ := Aside0.mk H
  clear H
  go_wp2_with (first | ((with_reducible refine gate_callee (f := 74) rfl ?_); refine goesL_ (some 10) rfl rfl Try.func74 (by kernel_rfl) rfl #[.pointer (some ⟨g404, 0, none⟩), .int .i64 30] rfl (by (try simp only [List.map_toArray, List.map_cons, List.map_nil]); first | done | rfl | (simp only [List.length_drop, List.length_take]; rfl)) ?_; (with_reducible refine (spec_l01Next.calls g404 t401 t402 t403 30 t405 t406 t407 w _ ?side1 ?side2 A4.out).mono ?_); (case side1 => repeat (first | (with_reducible first | exact HI404.out | apply IsS102.alloc | apply IsS102.drewN | apply IsS102.drew | apply IsS102.set_1 | apply IsS102.set_2) | exact HI404.out)); (case side2 => repeat (first | (with_reducible first | exact HB.out | apply below_alloc | apply pw_below_drewN | apply below_drew1 | refine below_set ?_ (IsS102.ge HI404.out)) | exact HB.out)); rintro e w5 ⟨rfl, hi, hb, hk⟩; refine ⟨_, rfl, ?_⟩; have n0_ := Aside0.mk (hb); have n1_ := Aside0.mk (hi); clear HB; clear HI404; have HB := n0_; have HI404 := n1_; clear n0_ n1_; (try clear hb); (try clear hb2); (try clear hk); (try clear hi); refine Stop0.out ?_))
  refine Stop0.mk ?_
  have H := H0_.out
  clear H0_
  by_cases c6 : t405 = 0
  · rw [if_pos c6] at H
    have c6b0 : (t405 == 0) = true := beq_iff_eq.mpr c6
    have c6b1 : (t405 != 0) = false := bne_eq_false_iff_eq.mpr c6
    clear c6
    replace H := Option.bind_eq_some_iff.mp H
    obtain ⟨⟨t408, t409, t410⟩, A70, H⟩ := H
    replace H : (if 0 ≤ (wrap64 (12 + t408)) then (if (wrap64 (12 + t408) : Int).toNat ≤ 8796093022208 then (some (List.replicate (wrap64 (12 + t408) : Int).toNat z24)) else (none)) else (none)) = some r := H
    have A7 := Aside0.mk A70
    clear A70
    have H0_ := Aside0.mk H
    clear H
    go_wp2_with (first | ((with_reducible refine gate_callee (f := 74) rfl ?_); refine goesL_ (some 13) rfl rfl Try.func74 (by kernel_rfl) rfl #[.pointer (some ⟨g404, 0, none⟩), .int .i64 2] rfl (by (try simp only [List.map_toArray, List.map_cons, List.map_nil]); first | done | rfl | (simp only [List.length_drop, List.length_take]; rfl)) ?_; (with_reducible refine (spec_l01Next.calls g404 t401 t406 t407 2 t408 t409 t410 w _ ?side1 ?side2 A7.out).mono ?_); (case side1 => repeat (first | (with_reducible first | exact HI404.out | apply IsS102.alloc | apply IsS102.drewN | apply IsS102.drew | apply IsS102.set_1 | apply IsS102.set_2) | exact HI404.out)); (case side2 => repeat (first | (with_reducible first | exact HB.out | apply below_alloc | apply pw_below_drewN | apply below_drew1 | refine below_set ?_ (IsS102.ge HI404.out)) | exact HB.out)); rintro e w8 ⟨rfl, hi, hb, hk⟩; refine ⟨_, rfl, ?_⟩; have n0_ := Aside0.mk (hb); have n1_ := Aside0.mk (hi); clear HB; clear HI404; have HB := n0_; have HI404 := n1_; clear n0_ n1_; (try clear hb); (try clear hb2); (try clear hk); (try clear hi); refine Stop0.out ?_))
    refine Stop0.mk ?_
    have H := H0_.out
    clear H0_
    obtain ⟨ji9, hji9⟩ : ∃ j_ : Int, (wrap64 (12 + t408)) = j_ := ⟨_, rfl⟩
    replace H : (if 0 ≤ (ji9) then (if (ji9 : Int).toNat ≤ 8796093022208 then (some (List.replicate (ji9 : Int).toNat z24)) else (none)) else (none)) = some r := by first | (rw [hji9] at H; exact H) | (simp only [hji9] at H ⊢; exact H)
    have hji9w : (IntKind.i64.wrap (12 + t408)) = ji9 := (i64_w _).trans hji9
    by_cases c10 : 0 ≤ (ji9)
    · rw [if_pos c10] at H
      have c10b0 := eq_true c10
      have c10b1 : decide (0 ≤ (ji9)) = true := decide_eq_true c10
      clear c10
      by_cases c11 : (ji9 : Int).toNat ≤ 8796093022208
      · rw [if_pos c11] at H
        have c11b0 := eq_true c11
        have c11b1 : decide ((ji9 : Int).toNat ≤ 8796093022208) = true := decide_eq_true c11
        clear c11
        obtain ⟨y411, hy411⟩ : ∃ y_ : List (S24), y_ = (List.replicate (ji9 : Int).toNat z24) := ⟨_, rfl⟩
        replace H : (some y411) = some r := by first | (rw [hy411]; with_reducible exact H) | (have H2_ := (Option.bind_some _ _).symm.trans H; rw [hy411]; with_reducible exact H2_) | (have H2_ := (Option.bind_some _ _).symm.trans H; with_reducible exact H2_) | with_reducible exact H | (rw [hy411]; exact H) | exact H
        have Ny411 := Aside0.mk hy411
        clear hy411
        obtain rfl := Option.some.inj H
        go_wp2_with (first | ((with_reducible refine gate_dst (N := 15) rfl ?_); refine Kd.R_make k24 _ 24 rfl (N := 15) rfl 34 _ _ rfl ji9 rfl rfl Try.underlying34 (.agg #[(.int .i64 0), (.int .i64 0), (.int .i64 0), (.int .i64 0)]) 32 info24 rfl (by decide) (by omega) z24 (ok := fun _ => True) (okp := fun _ => True) (k24_mkM _ _ _ z24 ) (fun _ hk => hk) trivial (of_decide_eq_true (by first | (with_reducible assumption) | assumption)) (Nat.le_trans (Nat.mul_le_mul_right _ (of_decide_eq_true (by first | (with_reducible assumption) | assumption) : ji9.toNat ≤ 8796093022208)) (by omega)) (Below.refl _ _) (Nat.le_refl _) ?_; intro v412 w12 ho13 hb hg_ hnew_; clear hg_ hnew_; (first | rw [← Ny411.out] at ho13 | (simp only [Int.reduceToNat] at ho13; rw [← Ny411.out] at ho13)); have n0_ := Aside0.mk (Kd.R_lower ho13 (below_size (by repeat (first | (with_reducible first | exact HB.out | apply below_alloc | apply pw_below_drewN | apply below_drew1 | refine below_set ?_ (IsS102.ge HI404.out)) | exact HB.out)))); have n1_ := Aside0.mk (IsS102.below (by repeat (first | (with_reducible first | exact HI404.out | apply IsS102.alloc | apply IsS102.drewN | apply IsS102.drew | apply IsS102.set_1 | apply IsS102.set_2) | exact HI404.out)) hb); have n2_ := Aside0.mk (below_step (by repeat (first | (with_reducible first | exact HB.out | apply below_alloc | apply pw_below_drewN | apply below_drew1 | refine below_set ?_ (IsS102.ge HI404.out)) | exact HB.out)) hb); clear HI404; clear HB; have HO413 := n0_; have HI404 := n1_; have HB := n2_; clear n0_ n1_ n2_; clear hb ho13))
        go_ret
        exact ⟨_, by first | rfl | (simp [errW_none, errW_some] <;> rfl) | (simp only [← hji9]; first | rfl | (simp [errW_none, errW_some] <;> rfl)) | (simp [*, errW_none, errW_some] <;> rfl), Kd.Q_of_R (by (with_reducible repeat (first | apply Kd.R_alloc | apply Kd.R_drewN | apply Kd.R_drew)); exact HO413.out), by repeat (first | (with_reducible first | exact HB.out | apply below_alloc | apply pw_below_drewN | apply below_drew1 | refine below_set ?_ (IsS102.ge HI404.out)) | exact HB.out)⟩
      · rw [if_neg c11] at H
        exact absurd H (by simp)
    · rw [if_neg c10] at H
      exact absurd H (by simp)
  · rw [if_neg c6] at H
    have c6b0 : (t405 == 0) = false := beq_eq_false_iff_ne.mpr c6
    have c6b1 : (t405 != 0) = true := bne_iff_ne.mpr c6
    replace H := Option.bind_eq_some_iff.mp H
    obtain ⟨⟨t414, t417, t418, t419, t420⟩, A140, H⟩ := H
    replace H : (some t414) = some r := H
    have A14 := Aside0.mk A140
    clear A140
    have H0_ := Aside0.mk H
    clear H
    go_wp2_with (first | ((with_reducible refine gate_callee (f := 73) rfl ?_); refine goesL_ (some 18) rfl rfl Try.func73 (by kernel_rfl) rfl #[.pointer (some ⟨g404, 0, none⟩)] rfl (by (try simp only [List.map_toArray, List.map_cons, List.map_nil]); first | done | rfl | (simp only [List.length_drop, List.length_take]; rfl)) ?_; (with_reducible refine (spec_l30Draw.calls k g404 t401 t406 t407 t414 t417 t418 t419 t420 w _ ?side1 ?side2 A14.out).mono ?_); (case side1 => repeat (first | (with_reducible first | exact HI404.out | apply IsS102.alloc | apply IsS102.drewN | apply IsS102.drew | apply IsS102.set_1 | apply IsS102.set_2) | exact HI404.out)); (case side2 => repeat (first | (with_reducible first | exact HB.out | apply below_alloc | apply pw_below_drewN | apply below_drew1 | refine below_set ?_ (IsS102.ge HI404.out)) | exact HB.out)); rintro e w15 ⟨v415, rfl, ho0, hi, hb, hk⟩; refine ⟨_, rfl, ?_⟩; have n0_ := Aside0.mk (Kd.Q_lower ho0 (below_size (by repeat (first | (with_reducible first | exact HB.out | apply below_alloc | apply pw_below_drewN | apply below_drew1 | refine below_set ?_ (IsS102.ge HI404.out)) | exact HB.out)))); have n1_ := Aside0.mk (hb); have n2_ := Aside0.mk (hi); clear HB; clear HI404; have HO416 := n0_; have HB := n1_; have HI404 := n2_; clear n0_ n1_ n2_; (try clear hb); (try clear hb2); (try clear hk); (try clear hi); (try clear ho0); refine Stop0.out ?_))
    refine Stop0.mk ?_
    have H := H0_.out
    clear H0_
    obtain rfl := Option.some.inj H
    go_wp2
    go_ret
    exact ⟨_, by first | rfl | (simp [errW_none, errW_some] <;> rfl) | (simp [*, errW_none, errW_some] <;> rfl), by (with_reducible repeat (first | apply Kd.Q_alloc | apply Kd.Q_drewN | apply Kd.Q_drew)); exact HO416.out, by repeat (first | (with_reducible first | exact HB.out | apply below_alloc | apply pw_below_drewN | apply below_drew1 | refine below_set ?_ (IsS102.ge HI404.out)) | exact HB.out)⟩

end Go.Proofs.Ytgcagmmghckbbaa.A

namespace Go.Proofs.Ytgcagmmghckbbaa.A
open Go.RowKit Go.Proofs.YtgcagmmghckbbaaW.PrintWords Go.Proofs.YtgcagmmghckbbaaW.PrintLast Go.Proofs.YtgcagmmghckbbaaW.PrintMore
attribute [local go_sem] max2_int min2_int max_two min_two max_three min_three max_four min_four   -- for this text's walks alone
set_option linter.unusedVariables false
set_option linter.unusedSimpArgs false

def spec_DrawFlatEdges.f (k : Nat) (l0 : List Int) : Option ((List (S24))) := (spec_DrawEdgeSum.f k l0).bind fun t421 => (some t421)
set_option maxHeartbeats 8000000 in
set_option maxRecDepth 100000 in
theorem spec_DrawFlatEdges.calls (k : Nat) (A0 : Option Addr) (c0 : Nat) (l0 : List Int) (r : List (S24)) (w : World) (hr0 : Kd.C (Kd.int .u8) w A0 l0.length l0) (hc0 : l0.length ≤ c0) (h : spec_DrawFlatEdges.f k l0 = some r) :
    Calls Try.prog 29 #[.slice A0 l0.length c0] w fun e w' => ∃ v0_ : Value, e = .returned (v0_) ∧ Kd.Q k24 24 w' w.heap.size (fun _ => True) v0_ r ∧ Below w.heap.size w w' := by
  have HR0 := Aside0.mk hr0
  have HC0 := Aside0.mk hc0
  clear hr0 hc0
  have HB := Aside0.mk (Below.refl w.heap.size w)
  have H : ((spec_DrawEdgeSum.f k l0).bind fun t421 => (some t421)) = some r := h
  clear h
  replace H := Option.bind_eq_some_iff.mp H
  obtain ⟨t421, A20, H⟩ := H
  replace H : (some t421) = some r := H
  have A2 := Aside0.mk A20
  clear A20
  have H0_ := Aside0.mk H
  clear H
  go_enter Try.func29, Try.ntmps29
  go_wp2_with (first | ((with_reducible refine gate_callee (f := 58) rfl ?_); refine goesL_ (some 4) rfl rfl Try.func58 (by kernel_rfl) rfl #[.slice A0 l0.length c0] rfl (by (try simp only [List.map_toArray, List.map_cons, List.map_nil]); first | done | rfl | (simp only [List.length_drop, List.length_take]; rfl)) ?_; (with_reducible refine (spec_DrawEdgeSum.calls k _ _ l0 t421 _ ?side1 ?side2 A2.out).mono ?_); (case side1 => repeat (first | exact HR0.out | (with_reducible refine Kd.C_alloc ?_ _) | (with_reducible refine Kd.C_drewN ?_ _) | (with_reducible refine Kd.C_drew ?_))); (case side2 => exact HC0.out); rintro e w3 ⟨v422, rfl, ho0, hb⟩; refine ⟨_, rfl, ?_⟩; have n0_ := Aside0.mk (Kd.Q_lower ho0 (below_size (by repeat (first | (with_reducible first | exact HB.out | apply below_alloc | apply pw_below_drewN | apply below_drew1) | exact HB.out)))); have n1_ := Aside0.mk (below_step (by repeat (first | (with_reducible first | exact HB.out | apply below_alloc | apply pw_below_drewN | apply below_drew1) | exact HB.out)) hb); clear HB; have HO423 := n0_; have HB := n1_; clear n0_ n1_; (try clear hb); (try clear hb2); (try clear hk); (try clear hi); (try clear ho0); refine Stop0.out ?_))
  refine Stop0.mk ?_
  have H := H0_.out
  clear H0_
  obtain rfl := Option.some.inj H
  go_wp2
  go_ret
  exact ⟨_, by first | rfl | (simp [errW_none, errW_some] <;> rfl) | (simp [*, errW_none, errW_some] <;> rfl), by (with_reducible repeat (first | apply Kd.Q_alloc | apply Kd.Q_drewN | apply Kd.Q_drew)); exact HO423.out, by repeat (first | (with_reducible first | exact HB.out | apply below_alloc | apply pw_below_drewN | apply below_drew1) | exact HB.out)⟩

end Go.Proofs.Ytgcagmmghckbbaa.A

namespace Go.Proofs.Ytgcagmmghckbbaa.A
open Go.RowKit Go.Proofs.YtgcagmmghckbbaaW.PrintWords Go.Proofs.YtgcagmmghckbbaaW.PrintLast Go.Proofs.YtgcagmmghckbbaaW.PrintMore
attribute [local go_sem] max2_int min2_int max_two min_two max_three min_three max_four min_four   -- for this text's walks alone
set_option linter.unusedVariables false
set_option linter.unusedSimpArgs false

def laws_likeInts.l0 : Nat → List Int → List Int → Int → Option (Bool)
  | 0, _, _, _ => none
  | k + 1, x0, x1, x5 => if x5 < (x0.length : Int) then (if 0 ≤ x5 then (if x5 < (x1.length : Int) then (if (rd x0 x5) = (rd x1 x5) then (laws_likeInts.l0 k x0 x1 (wrap64 (x5 + 1))) else (some false)) else (none)) else (none)) else (some true)
def laws_likeInts.f (k : Nat) (l0 : List Int) (l1 : List Int) : Option (Bool) := if (l0.length : Int) = (l1.length : Int) then (laws_likeInts.l0 k l0 l1 0) else (some false)
set_option maxHeartbeats 8000000 in
set_option maxRecDepth 100000 in
theorem laws_likeInts.calls (k : Nat) (A0 : Option Addr) (c0 : Nat) (l0 : List Int) (A1 : Option Addr) (c1 : Nat) (l1 : List Int) (r : Bool) (w : World) (hr0 : Kd.C (Kd.int .i64) w A0 l0.length l0) (hc0 : l0.length ≤ c0) (hr1 : Kd.C (Kd.int .i64) w A1 l1.length l1) (hc1 : l1.length ≤ c1) (h : laws_likeInts.f k l0 l1 = some r) :
    Calls Try.prog 30 #[.slice A0 l0.length c0, .slice A1 l1.length c1] w fun e w' => e = .returned (.bool r) ∧ Drawn0 w w' := by
  have HR0 := Aside0.mk hr0
  have HC0 := Aside0.mk hc0
  clear hr0 hc0
  have HR1 := Aside0.mk hr1
  have HC1 := Aside0.mk hc1
  clear hr1 hc1
  have H : (if (l0.length : Int) = (l1.length : Int) then (laws_likeInts.l0 k l0 l1 0) else (some false)) = some r := h
  clear h
  by_cases c3 : (l0.length : Int) = (l1.length : Int)
  · rw [if_pos c3] at H
    have c3b0 : ((l0.length : Int) == (l1.length : Int)) = true := beq_iff_eq.mpr c3
    have c3b1 : ((l0.length : Int) != (l1.length : Int)) = false := bne_eq_false_iff_eq.mpr c3
    have c3b2 : (l0.length == l1.length) = true := by first | simpa using c3 | (simp at c3 ⊢; omega)
    clear c3
    have H' := Aside0.mk H
    clear H
    go_enter Try.func30, Try.ntmps30
    go_wp2
    repeat (go_quiet (fail); try go_wp2)
    go_loopg [5] k (fun kq v5 w' => ∃ (x5_1 : Int), v5 = .int .i64 x5_1 ∧ Aside0 (laws_likeInts.l0 kq l0 l1 x5_1 = some r) ∧ Aside0 (kq ≤ k) ∧ Drawn0 w w')
    case atStart => exact ⟨(0), (by first | rfl | (simp; done) | (simp [*]; done)), H', ⟨Nat.le_refl _⟩, by repeat (first | exact Drawn0.refl _ | apply Drawn0.step)⟩
    case round =>
      clear H'
      try clear c1
      try clear p2
      try clear c3
      try clear c3b0
      try clear c3b1
      try clear c3b2
      obtain ⟨x5_1, rfl, HA, HK1, ⟨m1, rfl⟩⟩ := hrel
      cases gk with
      | zero => exact absurd HA.out (by simp [laws_likeInts.l0])
      | succ k1 =>
        have H := HA.out
        clear HA
        simp only [laws_likeInts.l0] at H
        by_cases c4 : x5_1 < (l0.length : Int)
        · rw [if_pos c4] at H
          have c4b0 : decide (x5_1 < (l0.length : Int)) = true := decide_eq_true c4
          clear c4
          by_cases c5 : 0 ≤ x5_1
          · rw [if_pos c5] at H
            have c5b0 : decide (0 ≤ x5_1) = true := decide_eq_true c5
            clear c5
            by_cases c6 : x5_1 < (l1.length : Int)
            · rw [if_pos c6] at H
              have c6b0 : decide (x5_1 < (l1.length : Int)) = true := decide_eq_true c6
              clear c6
              by_cases c7 : (rd l0 x5_1) = (rd l1 x5_1)
              · rw [if_pos c7] at H
                have c7b0 : ((rd l0 x5_1) == (rd l1 x5_1)) = true := beq_iff_eq.mpr c7
                have c7b1 : ((rd l0 x5_1) != (rd l1 x5_1)) = false := bne_eq_false_iff_eq.mpr c7
                clear c7
                have H' := Aside0.mk H
                clear H
                have p424 : 0 ≤ (x5_1 : Int) := of_decide_eq_true (by first | (with_reducible assumption) | assumption)
                have q424 : x5_1 < (l0.length : Int) := of_decide_eq_true (by first | (with_reducible assumption) | assumption)
                obtain ⟨ad424, e424, hx424_0⟩ := Kd.at_int HR0.out x5_1 p424 q424
                cases e424
                replace p424 := eq_true p424
                replace q424 := eq_true q424
                have p425 : 0 ≤ (x5_1 : Int) := of_decide_eq_true (by first | (with_reducible assumption) | assumption)
                have q425 : x5_1 < (l1.length : Int) := of_decide_eq_true (by first | (with_reducible assumption) | assumption)
                obtain ⟨ad425, e425, hx425_0⟩ := Kd.at_int HR1.out x5_1 p425 q425
                cases e425
                replace p425 := eq_true p425
                replace q425 := eq_true q425
                go_wp2
                repeat (go_quiet (fail); try go_wp2)
                go_roundg k1
                case measure => have := HK1.out; omega
                case rel => exact ⟨(wrap64 (x5_1 + 1)), (by first | rfl | (simp; done) | (simp [*]; done)), H', ⟨by have := HK1.out; omega⟩, by repeat (first | exact Drawn0.refl _ | apply Drawn0.step)⟩
              · rw [if_neg c7] at H
                have c7b0 : ((rd l0 x5_1) == (rd l1 x5_1)) = false := beq_eq_false_iff_ne.mpr c7
                have c7b1 : ((rd l0 x5_1) != (rd l1 x5_1)) = true := bne_iff_ne.mpr c7
                obtain rfl := Option.some.inj H
                have p424 : 0 ≤ (x5_1 : Int) := of_decide_eq_true (by first | (with_reducible assumption) | assumption)
                have q424 : x5_1 < (l0.length : Int) := of_decide_eq_true (by first | (with_reducible assumption) | assumption)
                obtain ⟨ad424, e424, hx424_0⟩ := Kd.at_int HR0.out x5_1 p424 q424
                cases e424
                replace p424 := eq_true p424
                replace q424 := eq_true q424
                have p425 : 0 ≤ (x5_1 : Int) := of_decide_eq_true (by first | (with_reducible assumption) | assumption)
                have q425 : x5_1 < (l1.length : Int) := of_decide_eq_true (by first | (with_reducible assumption) | assumption)
                obtain ⟨ad425, e425, hx425_0⟩ := Kd.at_int HR1.out x5_1 p425 q425
                cases e425
                replace p425 := eq_true p425
                replace q425 := eq_true q425
                go_wp2
                repeat (go_quiet (fail); try go_wp2)
                go_ret
                exact ⟨by first | rfl | (simp; done) | (simp [*]; done), by repeat (first | exact Drawn0.refl _ | apply Drawn0.step)⟩
            · rw [if_neg c6] at H
              exact absurd H (by simp)
          · rw [if_neg c5] at H
            exact absurd H (by simp)
        · rw [if_neg c4] at H
          have c4b0 : decide (x5_1 < (l0.length : Int)) = false := decide_eq_false c4
          clear c4
          obtain rfl := Option.some.inj H
          go_wp2
          repeat (go_quiet (fail); try go_wp2)
          go_ret
          exact ⟨by first | rfl | (simp; done) | (simp [*]; done), by repeat (first | exact Drawn0.refl _ | apply Drawn0.step)⟩
  · rw [if_neg c3] at H
    have c3b0 : ((l0.length : Int) == (l1.length : Int)) = false := beq_eq_false_iff_ne.mpr c3
    have c3b1 : ((l0.length : Int) != (l1.length : Int)) = true := bne_iff_ne.mpr c3
    have c3b2 : (l0.length == l1.length) = false := by first | simpa using c3 | (simp at c3 ⊢; omega)
    obtain rfl := Option.some.inj H
    go_enter Try.func30, Try.ntmps30
    go_wp2
    repeat (go_quiet (fail); try go_wp2)
    go_ret
    exact ⟨by first | rfl | (simp; done) | (simp [*]; done), by repeat (first | exact Drawn0.refl _ | apply Drawn0.step)⟩

end Go.Proofs.Ytgcagmmghckbbaa.A

namespace Go.Proofs.Ytgcagmmghckbbaa.A
open Go.RowKit Go.Proofs.YtgcagmmghckbbaaW.PrintWords Go.Proofs.YtgcagmmghckbbaaW.PrintLast Go.Proofs.YtgcagmmghckbbaaW.PrintMore
attribute [local go_sem] max2_int min2_int max_two min_two max_three min_three max_four min_four   -- for this text's walks alone
set_option linter.unusedVariables false
set_option linter.unusedSimpArgs false

def laws_sum.l0 : Nat → List Int → Int → Int → Option (Int)
  | 0, _, _, _ => none
  | k + 1, x0, x3, x4 => if x4 < (x0.length : Int) then (if 0 ≤ x4 then (laws_sum.l0 k x0 (wrap64 (x3 + (rd x0 x4))) (wrap64 (x4 + 1))) else (none)) else (some x3)
def laws_sum.f (k : Nat) (l0 : List Int) : Option (Int) := laws_sum.l0 k l0 0 0
set_option maxHeartbeats 8000000 in
set_option maxRecDepth 100000 in
theorem laws_sum.calls (k : Nat) (A0 : Option Addr) (c0 : Nat) (l0 : List Int) (r : Int) (w : World) (hr0 : Kd.C (Kd.int .i64) w A0 l0.length l0) (hc0 : l0.length ≤ c0) (h : laws_sum.f k l0 = some r) :
    Calls Try.prog 31 #[.slice A0 l0.length c0] w fun e w' => e = .returned (.int .i64 r) ∧ Drawn0 w w' := by
  have HR0 := Aside0.mk hr0
  have HC0 := Aside0.mk hc0
  clear hr0 hc0
  have H : (laws_sum.l0 k l0 0 0) = some r := h
  clear h
  have H' := Aside0.mk H
  clear H
  go_enter Try.func31, Try.ntmps31
  go_wp2
  go_loopg [3, 4] k (fun kq v3 v4 w' => ∃ (x3_1 : Int) (x4_1 : Int), v3 = .int .i64 x3_1 ∧ v4 = .int .i64 x4_1 ∧ Aside0 (laws_sum.l0 kq l0 x3_1 x4_1 = some r) ∧ Aside0 (kq ≤ k) ∧ Drawn0 w w')
  case atStart => exact ⟨(0), (0), (by first | rfl | (simp; done) | (simp [*]; done)), (by first | rfl | (simp; done) | (simp [*]; done)), H', ⟨Nat.le_refl _⟩, by repeat (first | exact Drawn0.refl _ | apply Drawn0.step)⟩
  case round =>
    clear H'
    obtain ⟨x3_1, x4_1, rfl, rfl, HA, HK1, ⟨m1, rfl⟩⟩ := hrel
    cases gk with
    | zero => exact absurd HA.out (by simp [laws_sum.l0])
    | succ k1 =>
      have H := HA.out
      clear HA
      simp only [laws_sum.l0] at H
      by_cases c2 : x4_1 < (l0.length : Int)
      · rw [if_pos c2] at H
        have c2b0 : decide (x4_1 < (l0.length : Int)) = true := decide_eq_true c2
        clear c2
        by_cases c3 : 0 ≤ x4_1
        · rw [if_pos c3] at H
          have c3b0 : decide (0 ≤ x4_1) = true := decide_eq_true c3
          clear c3
          have H' := Aside0.mk H
          clear H
          have p426 : 0 ≤ (x4_1 : Int) := of_decide_eq_true (by first | (with_reducible assumption) | assumption)
          have q426 : x4_1 < (l0.length : Int) := of_decide_eq_true (by first | (with_reducible assumption) | assumption)
          obtain ⟨ad426, e426, hx426_0⟩ := Kd.at_int HR0.out x4_1 p426 q426
          cases e426
          replace p426 := eq_true p426
          replace q426 := eq_true q426
          go_wp2
          go_roundg k1
          case measure => have := HK1.out; omega
          case rel => exact ⟨(wrap64 (x3_1 + (rd l0 x4_1))), (wrap64 (x4_1 + 1)), (by first | rfl | (simp; done) | (simp [*]; done)), (by first | rfl | (simp; done) | (simp [*]; done)), H', ⟨by have := HK1.out; omega⟩, by repeat (first | exact Drawn0.refl _ | apply Drawn0.step)⟩
        · rw [if_neg c3] at H
          exact absurd H (by simp)
      · rw [if_neg c2] at H
        have c2b0 : decide (x4_1 < (l0.length : Int)) = false := decide_eq_false c2
        clear c2
        obtain rfl := Option.some.inj H
        go_wp2
        go_ret
        exact ⟨by first | rfl | (simp; done) | (simp [*]; done), by repeat (first | exact Drawn0.refl _ | apply Drawn0.step)⟩

end Go.Proofs.Ytgcagmmghckbbaa.A

namespace Go.Proofs.Ytgcagmmghckbbaa.A
open Go.RowKit Go.Proofs.YtgcagmmghckbbaaW.PrintWords Go.Proofs.YtgcagmmghckbbaaW.PrintLast Go.Proofs.YtgcagmmghckbbaaW.PrintMore
attribute [local go_sem] max2_int min2_int max_two min_two max_three min_three max_four min_four   -- for this text's walks alone
set_option linter.unusedVariables false
set_option linter.unusedSimpArgs false

mutual
def laws_FnTileEdges.j0 : Nat → List (S24) → List Int → Int → Int → Bool → Option (Bool)
  | 0, _, _, _, _, _ => none
  | k + 1, x3, x4, x5, x8, x58 => if x58 = true then (some false) else (if x5 = 0 then (laws_FnTileEdges.j1 k x3 x4 x8 ((x3.length : Int) == 0)) else (laws_FnTileEdges.j1 k x3 x4 x8 true))
def laws_FnTileEdges.j1 : Nat → List (S24) → List Int → Int → Bool → Option (Bool)
  | 0, _, _, _, _ => none
  | k + 1, x3, x4, x8, x65 => if x65 = true then (some true) else (if 1 ≤ (x3.length : Int) then ((impl_EdgeSum.f k (x3.take 1)).bind fun bt448 => ((impl_EdgeSum.f k (x3.drop 1)).bind fun bt454 => (if bt448.2 = 0 then (if bt454.2 = 0 then (if (wrap64 (bt448.1 + bt454.1)) = x8 then ((laws_sum.f k x4).bind fun t456 => (some (t456 == (x3.length : Int)))) else (some false)) else (some false)) else (some false)))) else (none))
end
def laws_FnTileEdges.f (k : Nat) (l0 : List Int) : Option (Bool) := (laws_big.f l0).bind fun t427 => (if t427 = true then (some true) else ((spec_DrawFlatEdges.f k l0).bind fun t428 => ((impl_FlatEdges.f k t428).bind fun bt431 => ((spec_FlatEdges.f k t428).bind fun bt435 => ((impl_EdgeSum.f k t428).bind fun bt439 => ((spec_EdgeSum.f k t428).bind fun bt441 => (if bt431.2 = bt435.2 then ((laws_likeInts.f k bt431.1 bt435.1).bind fun t443 => (if t443 = true then (if bt439.2 = bt441.2 then (laws_FnTileEdges.j0 k t428 bt431.1 bt431.2 bt439.1 (bt439.1 != bt441.1)) else (laws_FnTileEdges.j0 k t428 bt431.1 bt431.2 bt439.1 true)) else (laws_FnTileEdges.j0 k t428 bt431.1 bt431.2 bt439.1 true))) else (laws_FnTileEdges.j0 k t428 bt431.1 bt431.2 bt439.1 true))))))))
set_option maxHeartbeats 8000000 in
set_option maxRecDepth 100000 in
theorem laws_FnTileEdges.calls (k : Nat) (A0 : Option Addr) (c0 : Nat) (l0 : List Int) (r : Bool) (w : World) (hr0 : Kd.C (Kd.int .u8) w A0 l0.length l0) (hc0 : l0.length ≤ c0) (h : laws_FnTileEdges.f k l0 = some r) :
    Calls Try.prog 6 #[.slice A0 l0.length c0] w fun e w' => e = .returned (.bool r) ∧ Below w.heap.size w w' := by
  have HR0 := Aside0.mk hr0
  have HC0 := Aside0.mk hc0
  clear hr0 hc0
  have HB := Aside0.mk (Below.refl w.heap.size w)
  have H : ((laws_big.f l0).bind fun t427 => (if t427 = true then (some true) else ((spec_DrawFlatEdges.f k l0).bind fun t428 => ((impl_FlatEdges.f k t428).bind fun bt431 => ((spec_FlatEdges.f k t428).bind fun bt435 => ((impl_EdgeSum.f k t428).bind fun bt439 => ((spec_EdgeSum.f k t428).bind fun bt441 => (if bt431.2 = bt435.2 then ((laws_likeInts.f k bt431.1 bt435.1).bind fun t443 => (if t443 = true then (if bt439.2 = bt441.2 then (laws_FnTileEdges.j0 k t428 bt431.1 bt431.2 bt439.1 (bt439.1 != bt441.1)) else (laws_FnTileEdges.j0 k t428 bt431.1 bt431.2 bt439.1 true)) else (laws_FnTileEdges.j0 k t428 bt431.1 bt431.2 bt439.1 true))) else (laws_FnTileEdges.j0 k t428 bt431.1 bt431.2 bt439.1 true))))))))) = some r := h
  clear h
  replace H := Option.bind_eq_some_iff.mp H
  obtain ⟨t427, A20, H⟩ := H
  replace H : (if t427 = true then (some true) else ((spec_DrawFlatEdges.f k l0).bind fun t428 => ((impl_FlatEdges.f k t428).bind fun bt431 => ((spec_FlatEdges.f k t428).bind fun bt435 => ((impl_EdgeSum.f k t428).bind fun bt439 => ((spec_EdgeSum.f k t428).bind fun bt441 => (if bt431.2 = bt435.2 then ((laws_likeInts.f k bt431.1 bt435.1).bind fun t443 => (if t443 = true then (if bt439.2 = bt441.2 then (laws_FnTileEdges.j0 k t428 bt431.1 bt431.2 bt439.1 (bt439.1 != bt441.1)) else (laws_FnTileEdges.j0 k t428 bt431.1 bt431.2 bt439.1 true)) else (laws_FnTileEdges.j0 k t428 bt431.1 bt431.2 bt439.1 true))) else (laws_FnTileEdges.j0 k t428 bt431.1 bt431.2 bt439.1 true)))))))) = some r := H
  have A2 := Aside0.mk A20
  clear A20
  have H0_ := Aside0.mk H
  clear H
  go_enter Try.func6, Try.ntmps6
  go_wp2_with (first | ((with_reducible refine gate_callee (f := 28) rfl ?_); refine goesL_ (some 17) rfl rfl Try.func28 (by kernel_rfl) rfl #[.slice A0 l0.length c0] rfl (by (try simp only [List.map_toArray, List.map_cons, List.map_nil]); first | done | rfl | (simp only [List.length_drop, List.length_take]; rfl)) ?_; (with_reducible refine (laws_big.calls _ _ l0 t427 _ ?side1 ?side2 A2.out).mono ?_); (case side1 => repeat (first | exact HR0.out | (with_reducible refine Kd.C_alloc ?_ _) | (with_reducible refine Kd.C_drewN ?_ _) | (with_reducible refine Kd.C_drew ?_))); (case side2 => exact HC0.out); rintro e w' ⟨rfl, ⟨nd, rfl⟩⟩; refine ⟨_, rfl, ?_⟩; refine Stop0.out ?_))
  refine Stop0.mk ?_
  have H := H0_.out
  clear H0_
  by_cases c3 : t427 = true
  · subst c3
    have H1 : (some true) = some r := by rw [if_pos rfl] at H; exact H
    clear H
    have H := H1
    clear H1
    obtain rfl := Option.some.inj H
    go_wp2
    go_ret
    exact ⟨by first | rfl | (simp [errW_none, errW_some] <;> rfl) | (simp [*, errW_none, errW_some] <;> rfl), by repeat (first | (with_reducible first | exact HB.out | apply below_alloc | apply pw_below_drewN | apply below_drew1) | exact HB.out)⟩
  · replace c3 := Bool.eq_false_iff.mpr c3
    subst c3
    have H1 : ((spec_DrawFlatEdges.f k l0).bind fun t428 => ((impl_FlatEdges.f k t428).bind fun bt431 => ((spec_FlatEdges.f k t428).bind fun bt435 => ((impl_EdgeSum.f k t428).bind fun bt439 => ((spec_EdgeSum.f k t428).bind fun bt441 => (if bt431.2 = bt435.2 then ((laws_likeInts.f k bt431.1 bt435.1).bind fun t443 => (if t443 = true then (if bt439.2 = bt441.2 then (laws_FnTileEdges.j0 k t428 bt431.1 bt431.2 bt439.1 (bt439.1 != bt441.1)) else (laws_FnTileEdges.j0 k t428 bt431.1 bt431.2 bt439.1 true)) else (laws_FnTileEdges.j0 k t428 bt431.1 bt431.2 bt439.1 true))) else (laws_FnTileEdges.j0 k t428 bt431.1 bt431.2 bt439.1 true))))))) = some r := by rw [if_neg (show ¬ (false = true) by decide)] at H; exact H
    clear H
    have H := H1
    clear H1
    replace H := Option.bind_eq_some_iff.mp H
    obtain ⟨t428, A40, H⟩ := H
    replace H : ((impl_FlatEdges.f k t428).bind fun bt431 => ((spec_FlatEdges.f k t428).bind fun bt435 => ((impl_EdgeSum.f k t428).bind fun bt439 => ((spec_EdgeSum.f k t428).bind fun bt441 => (if bt431.2 = bt435.2 then ((laws_likeInts.f k bt431.1 bt435.1).bind fun t443 => (if t443 = true then (if bt439.2 = bt441.2 then (laws_FnTileEdges.j0 k t428 bt431.1 bt431.2 bt439.1 (bt439.1 != bt441.1)) else (laws_FnTileEdges.j0 k t428 bt431.1 bt431.2 bt439.1 true)) else (laws_FnTileEdges.j0 k t428 bt431.1 bt431.2 bt439.1 true))) else (laws_FnTileEdges.j0 k t428 bt431.1 bt431.2 bt439.1 true)))))) = some r := H
    have A4 := Aside0.mk A40
    clear A40
    have H0_ := Aside0.mk H
    clear H
    go_wp2_with (first | ((with_reducible refine gate_callee (f := 29) rfl ?_); refine goesL_ (some 19) rfl rfl Try.func29 (by kernel_rfl) rfl #[.slice A0 l0.length c0] rfl (by (try simp only [List.map_toArray, List.map_cons, List.map_nil]); first | done | rfl | (simp only [List.length_drop, List.length_take]; rfl)) ?_; (with_reducible refine (spec_DrawFlatEdges.calls k _ _ l0 t428 _ ?side1 ?side2 A4.out).mono ?_); (case side1 => repeat (first | exact (Kd.C_below HR0.out HB.out) | (with_reducible refine Kd.C_alloc ?_ _) | (with_reducible refine Kd.C_drewN ?_ _) | (with_reducible refine Kd.C_drew ?_))); (case side2 => exact HC0.out); rintro e w5 ⟨v429, rfl, ho0, hb⟩; refine ⟨_, rfl, ?_⟩; have n0_ := Aside0.mk (Kd.Q_lower ho0 (below_size (by repeat (first | (with_reducible first | exact HB.out | apply below_alloc | apply pw_below_drewN | apply below_drew1) | exact HB.out)))); have n1_ := Aside0.mk (below_step (by repeat (first | (with_reducible first | exact HB.out | apply below_alloc | apply pw_below_drewN | apply below_drew1) | exact HB.out)) hb); clear HB; have HO430 := n0_; have HB := n1_; clear n0_ n1_; (try clear hb); (try clear hb2); (try clear hk); (try clear hi); (try clear ho0); refine Stop0.out ?_))
    refine Stop0.mk ?_
    have H := H0_.out
    clear H0_
    replace H := Option.bind_eq_some_iff.mp H
    obtain ⟨⟨t431, t432⟩, A60, H⟩ := H
    replace H : ((spec_FlatEdges.f k t428).bind fun bt435 => ((impl_EdgeSum.f k t428).bind fun bt439 => ((spec_EdgeSum.f k t428).bind fun bt441 => (if t432 = bt435.2 then ((laws_likeInts.f k t431 bt435.1).bind fun t443 => (if t443 = true then (if bt439.2 = bt441.2 then (laws_FnTileEdges.j0 k t428 t431 t432 bt439.1 (bt439.1 != bt441.1)) else (laws_FnTileEdges.j0 k t428 t431 t432 bt439.1 true)) else (laws_FnTileEdges.j0 k t428 t431 t432 bt439.1 true))) else (laws_FnTileEdges.j0 k t428 t431 t432 bt439.1 true))))) = some r := H
    have A6 := Aside0.mk A60
    clear A60
    have H0_ := Aside0.mk H
    clear H
    obtain ⟨Ao7, co7, eo7, _⟩ := Kd.Q_slice HO430.out
    subst eo7
    go_wp2_with (first | ((with_reducible refine gate_callee (f := 23) rfl ?_); refine goesL_ (some 22) rfl rfl Try.func23 (by kernel_rfl) rfl #[.slice Ao7 t428.length co7] rfl (by (try simp only [List.map_toArray, List.map_cons, List.map_nil]); first | done | rfl | (simp only [List.length_drop, List.length_take]; rfl)) ?_; (with_reducible refine (impl_FlatEdges.calls k _ _ t428 t431 t432 _ ?side1 ?side2 A6.out).mono ?_); (case side1 => repeat (first | exact (Kd.Q_reads' HO430.out).2.2 | (with_reducible refine Kd.C_alloc ?_ _) | (with_reducible refine Kd.C_drewN ?_ _) | (with_reducible refine Kd.C_drew ?_))); (case side2 => exact (Kd.Q_reads' HO430.out).2.1); rintro e w8 ⟨v433, rfl, ho0, hb⟩; refine ⟨_, rfl, ?_⟩; have n0_ := Aside0.mk (Kd.Q_below (by (with_reducible repeat (first | apply Kd.Q_alloc | apply Kd.Q_drewN | apply Kd.Q_drew)); exact HO430.out) hb); have n1_ := Aside0.mk (Kd.R_lower ho0 (below_size (by repeat (first | (with_reducible first | exact HB.out | apply below_alloc | apply pw_below_drewN | apply below_drew1) | exact HB.out)))); have n2_ := Aside0.mk (below_step (by repeat (first | (with_reducible first | exact HB.out | apply below_alloc | apply pw_below_drewN | apply below_drew1) | exact HB.out)) hb); clear HO430; clear HB; have HO430 := n0_; have HO434 := n1_; have HB := n2_; clear n0_ n1_ n2_; (try clear hb); (try clear hb2); (try clear hk); (try clear hi); (try clear ho0); refine Stop0.out ?_))
    refine Stop0.mk ?_
    have H := H0_.out
    clear H0_
    replace H := Option.bind_eq_some_iff.mp H
    obtain ⟨⟨t435, t436⟩, A90, H⟩ := H
    replace H : ((impl_EdgeSum.f k t428).bind fun bt439 => ((spec_EdgeSum.f k t428).bind fun bt441 => (if t432 = t436 then ((laws_likeInts.f k t431 t435).bind fun t443 => (if t443 = true then (if bt439.2 = bt441.2 then (laws_FnTileEdges.j0 k t428 t431 t432 bt439.1 (bt439.1 != bt441.1)) else (laws_FnTileEdges.j0 k t428 t431 t432 bt439.1 true)) else (laws_FnTileEdges.j0 k t428 t431 t432 bt439.1 true))) else (laws_FnTileEdges.j0 k t428 t431 t432 bt439.1 true)))) = some r := H
    have A9 := Aside0.mk A90
    clear A90
    have H0_ := Aside0.mk H
    clear H
    go_wp2_with (first | ((with_reducible refine gate_callee (f := 22) rfl ?_); refine goesL_ (some 27) rfl rfl Try.func22 (by kernel_rfl) rfl #[.slice Ao7 t428.length co7] rfl (by (try simp only [List.map_toArray, List.map_cons, List.map_nil]); first | done | rfl | (simp only [List.length_drop, List.length_take]; rfl)) ?_; (with_reducible refine (spec_FlatEdges.calls k _ _ t428 t435 t436 _ ?side1 ?side2 A9.out).mono ?_); (case side1 => repeat (first | exact (Kd.Q_reads' HO430.out).2.2 | (with_reducible refine Kd.C_alloc ?_ _) | (with_reducible refine Kd.C_drewN ?_ _) | (with_reducible refine Kd.C_drew ?_))); (case side2 => exact (Kd.Q_reads' HO430.out).2.1); rintro e w10 ⟨v437, rfl, ho0, hb⟩; refine ⟨_, rfl, ?_⟩; have n0_ := Aside0.mk (Kd.Q_below (by (with_reducible repeat (first | apply Kd.Q_alloc | apply Kd.Q_drewN | apply Kd.Q_drew)); exact HO430.out) hb); have n1_ := Aside0.mk (Kd.R_elder' (by (with_reducible repeat (first | apply Kd.R_alloc | apply Kd.R_drewN | apply Kd.R_drew)); exact HO434.out) (Kd.R_base ho0) hb); have n2_ := Aside0.mk (Kd.R_lower (Kd.R_new' ho0 (Kd.R_lt (by (with_reducible repeat (first | apply Kd.R_alloc | apply Kd.R_drewN | apply Kd.R_drew)); exact HO434.out))) (below_size (by repeat (first | (with_reducible first | exact HB.out | apply below_alloc | apply pw_below_drewN | apply below_drew1) | exact HB.out)))); have n3_ := Aside0.mk (below_step (by repeat (first | (with_reducible first | exact HB.out | apply below_alloc | apply pw_below_drewN | apply below_drew1) | exact HB.out)) hb); clear HO430; clear HO434; clear HB; have HO430 := n0_; have HO434 := n1_; have HO438 := n2_; have HB := n3_; clear n0_ n1_ n2_ n3_; (try clear hb); (try clear hb2); (try clear hk); (try clear hi); (try clear ho0); refine Stop0.out ?_))
    refine Stop0.mk ?_
    have H := H0_.out
    clear H0_
    replace H := Option.bind_eq_some_iff.mp H
    obtain ⟨⟨t439, t440⟩, A110, H⟩ := H
    replace H : ((spec_EdgeSum.f k t428).bind fun bt441 => (if t432 = t436 then ((laws_likeInts.f k t431 t435).bind fun t443 => (if t443 = true then (if t440 = bt441.2 then (laws_FnTileEdges.j0 k t428 t431 t432 t439 (t439 != bt441.1)) else (laws_FnTileEdges.j0 k t428 t431 t432 t439 true)) else (laws_FnTileEdges.j0 k t428 t431 t432 t439 true))) else (laws_FnTileEdges.j0 k t428 t431 t432 t439 true))) = some r := H
    have A11 := Aside0.mk A110
    clear A110
    have H0_ := Aside0.mk H
    clear H
    go_wp2_with (first | ((with_reducible refine gate_callee (f := 20) rfl ?_); refine goesL_ (some 32) rfl rfl Try.func20 (by kernel_rfl) rfl #[.slice Ao7 t428.length co7] rfl (by (try simp only [List.map_toArray, List.map_cons, List.map_nil]); first | done | rfl | (simp only [List.length_drop, List.length_take]; rfl)) ?_; (with_reducible refine (impl_EdgeSum.calls k _ _ t428 t439 t440 _ ?side1 ?side2 A11.out).mono ?_); (case side1 => repeat (first | exact (Kd.Q_reads' HO430.out).2.2 | (with_reducible refine Kd.C_alloc ?_ _) | (with_reducible refine Kd.C_drewN ?_ _) | (with_reducible refine Kd.C_drew ?_))); (case side2 => exact (Kd.Q_reads' HO430.out).2.1); rintro e w12 ⟨rfl, hb⟩; refine ⟨_, rfl, ?_⟩; have n0_ := Aside0.mk (Kd.Q_below (by (with_reducible repeat (first | apply Kd.Q_alloc | apply Kd.Q_drewN | apply Kd.Q_drew)); exact HO430.out) hb); have n1_ := Aside0.mk (Kd.R_below (by (with_reducible repeat (first | apply Kd.R_alloc | apply Kd.R_drewN | apply Kd.R_drew)); exact HO434.out) hb); have n2_ := Aside0.mk (Kd.R_below (by (with_reducible repeat (first | apply Kd.R_alloc | apply Kd.R_drewN | apply Kd.R_drew)); exact HO438.out) hb); have n3_ := Aside0.mk (below_step (by repeat (first | (with_reducible first | exact HB.out | apply below_alloc | apply pw_below_drewN | apply below_drew1) | exact HB.out)) hb); clear HO430; clear HO434; clear HO438; clear HB; have HO430 := n0_; have HO434 := n1_; have HO438 := n2_; have HB := n3_; clear n0_ n1_ n2_ n3_; (try clear hb); (try clear hb2); (try clear hk); (try clear hi); refine Stop0.out ?_))
    refine Stop0.mk ?_
    have H := H0_.out
    clear H0_
    replace H := Option.bind_eq_some_iff.mp H
    obtain ⟨⟨t441, t442⟩, A130, H⟩ := H
    replace H : (if t432 = t436 then ((laws_likeInts.f k t431 t435).bind fun t443 => (if t443 = true then (if t440 = t442 then (laws_FnTileEdges.j0 k t428 t431 t432 t439 (t439 != t441)) else (laws_FnTileEdges.j0 k t428 t431 t432 t439 true)) else (laws_FnTileEdges.j0 k t428 t431 t432 t439 true))) else (laws_FnTileEdges.j0 k t428 t431 t432 t439 true)) = some r := H
    have A13 := Aside0.mk A130
    clear A130
    have H0_ := Aside0.mk H
    clear H
    go_wp2_with (first | ((with_reducible refine gate_callee (f := 18) rfl ?_); refine goesL_ (some 37) rfl rfl Try.func18 (by kernel_rfl) rfl #[.slice Ao7 t428.length co7] rfl (by (try simp only [List.map_toArray, List.map_cons, List.map_nil]); first | done | rfl | (simp only [List.length_drop, List.length_take]; rfl)) ?_; (with_reducible refine (spec_EdgeSum.calls k _ _ t428 t441 t442 _ ?side1 ?side2 A13.out).mono ?_); (case side1 => repeat (first | exact (Kd.Q_reads' HO430.out).2.2 | (with_reducible refine Kd.C_alloc ?_ _) | (with_reducible refine Kd.C_drewN ?_ _) | (with_reducible refine Kd.C_drew ?_))); (case side2 => exact (Kd.Q_reads' HO430.out).2.1); rintro e w14 ⟨rfl, hb⟩; refine ⟨_, rfl, ?_⟩; have n0_ := Aside0.mk (Kd.Q_below (by (with_reducible repeat (first | apply Kd.Q_alloc | apply Kd.Q_drewN | apply Kd.Q_drew)); exact HO430.out) hb); have n1_ := Aside0.mk (Kd.R_below (by (with_reducible repeat (first | apply Kd.R_alloc | apply Kd.R_drewN | apply Kd.R_drew)); exact HO434.out) hb); have n2_ := Aside0.mk (Kd.R_below (by (with_reducible repeat (first | apply Kd.R_alloc | apply Kd.R_drewN | apply Kd.R_drew)); exact HO438.out) hb); have n3_ := Aside0.mk (below_step (by repeat (first | (with_reducible first | exact HB.out | apply below_alloc | apply pw_below_drewN | apply below_drew1) | exact HB.out)) hb); clear HO430; clear HO434; clear HO438; clear HB; have HO430 := n0_; have HO434 := n1_; have HO438 := n2_; have HB := n3_; clear n0_ n1_ n2_ n3_; (try clear hb); (try clear hb2); (try clear hk); (try clear hi); refine Stop0.out ?_))
    refine Stop0.mk ?_
    have H := H0_.out
    clear H0_
    have HC15 := Aside0.mk H
    clear H
    go_upto_region 8 with (fail)
    go_cut [58] (fun v58 wc => ∃ (kq : Nat) (x58_14 : Bool), v58 = .bool x58_14 ∧ Aside0 (laws_FnTileEdges.j0 kq t428 t431 t432 t439 x58_14 = some r) ∧ Aside0 (kq ≤ k) ∧ Aside0 (Kd.Q k24 24 wc w.heap.size (fun _ => True) (.slice Ao7 t428.length co7) t428) ∧ Aside0 (Kd.R (Kd.int .i64) 2 wc w.heap.size (fun _ => True) v433 t431) ∧ Aside0 (Below w.heap.size w wc))
    case first =>
      have H := HC15.out
      clear HC15
      by_cases c16 : t432 = t436
      · rw [if_pos c16] at H
        have c16b0 : (t432 == t436) = true := beq_iff_eq.mpr c16
        have c16b1 : (t432 != t436) = false := bne_eq_false_iff_eq.mpr c16
        clear c16
        (first | rw [c16b0] | (simp only [i64_w, i32_w]; rw [c16b0]) | skip)
        replace H := Option.bind_eq_some_iff.mp H
        obtain ⟨t443, A170, H⟩ := H
        replace H : (if t443 = true then (if t440 = t442 then (laws_FnTileEdges.j0 k t428 t431 t432 t439 (t439 != t441)) else (laws_FnTileEdges.j0 k t428 t431 t432 t439 true)) else (laws_FnTileEdges.j0 k t428 t431 t432 t439 true)) = some r := H
        have A17 := Aside0.mk A170
        clear A170
        have H0_ := Aside0.mk H
        clear H
        obtain ⟨Ao18, co18, eo18⟩ := Kd.R_slice HO434.out
        subst eo18
        obtain ⟨Ao19, co19, eo19⟩ := Kd.R_slice HO438.out
        subst eo19
        go_wp2_with (first | (go_at_call 30; (with_reducible refine (laws_likeInts.calls k _ _ t431 _ _ t435 t443 _ ?side1 ?side2 ?side3 ?side4 A17.out).mono ?_); (case side1 => repeat (first | exact (Kd.R_reads' HO434.out).2.2 | (with_reducible refine Kd.C_alloc ?_ _) | (with_reducible refine Kd.C_drewN ?_ _) | (with_reducible refine Kd.C_drew ?_))); (case side2 => exact (Kd.R_reads' HO434.out).2.1); (case side3 => repeat (first | exact (Kd.R_reads' HO438.out).2.2 | (with_reducible refine Kd.C_alloc ?_ _) | (with_reducible refine Kd.C_drewN ?_ _) | (with_reducible refine Kd.C_drew ?_))); (case side4 => exact (Kd.R_reads' HO438.out).2.1); rintro e w' ⟨rfl, ⟨nd, rfl⟩⟩; refine Stop0.out ?_))
        refine Stop0.mk ?_
        have H := H0_.out
        clear H0_
        by_cases c20 : t443 = true
        · subst c20
          have H1 : (if t440 = t442 then (laws_FnTileEdges.j0 k t428 t431 t432 t439 (t439 != t441)) else (laws_FnTileEdges.j0 k t428 t431 t432 t439 true)) = some r := by rw [if_pos rfl] at H; exact H
          clear H
          have H := H1
          clear H1
          by_cases c21 : t440 = t442
          · rw [if_pos c21] at H
            have c21b0 : (t440 == t442) = true := beq_iff_eq.mpr c21
            have c21b1 : (t440 != t442) = false := bne_eq_false_iff_eq.mpr c21
            clear c21
            have H' := Aside0.mk H
            clear H
            go_wp2
            go_meet
            case rel => exact ⟨_, ((t439 != t441)), (by first | rfl | (simp; done) | (simp [*]; done)), H', ⟨by first | omega | exact Nat.le_refl _⟩, ⟨by (with_reducible repeat (first | apply Kd.Q_alloc | apply Kd.Q_drewN | apply Kd.Q_drew)); exact HO430.out⟩, ⟨by (with_reducible repeat (first | apply Kd.R_alloc | apply Kd.R_drewN | apply Kd.R_drew)); exact Kd.R_mono HO434.out (fun _ hk => trivial)⟩, ⟨by repeat (first | (with_reducible first | exact HB.out | apply below_alloc | apply pw_below_drewN | apply below_drew1) | exact HB.out)⟩⟩
          · rw [if_neg c21] at H
            have c21b0 : (t440 == t442) = false := beq_eq_false_iff_ne.mpr c21
            have c21b1 : (t440 != t442) = true := bne_iff_ne.mpr c21
            have H' := Aside0.mk H
            clear H
            go_wp2
            go_meet
            case rel => exact ⟨_, (true), (by first | rfl | (simp; done) | (simp [*]; done)), H', ⟨by first | omega | exact Nat.le_refl _⟩, ⟨by (with_reducible repeat (first | apply Kd.Q_alloc | apply Kd.Q_drewN | apply Kd.Q_drew)); exact HO430.out⟩, ⟨by (with_reducible repeat (first | apply Kd.R_alloc | apply Kd.R_drewN | apply Kd.R_drew)); exact Kd.R_mono HO434.out (fun _ hk => trivial)⟩, ⟨by repeat (first | (with_reducible first | exact HB.out | apply below_alloc | apply pw_below_drewN | apply below_drew1) | exact HB.out)⟩⟩
        · replace c20 := Bool.eq_false_iff.mpr c20
          subst c20
          have H1 : (laws_FnTileEdges.j0 k t428 t431 t432 t439 true) = some r := by rw [if_neg (show ¬ (false = true) by decide)] at H; exact H
          clear H
          have H := H1
          clear H1
          have H' := Aside0.mk H
          clear H
          go_wp2
          go_meet
          case rel => exact ⟨_, (true), (by first | rfl | (simp; done) | (simp [*]; done)), H', ⟨by first | omega | exact Nat.le_refl _⟩, ⟨by (with_reducible repeat (first | apply Kd.Q_alloc | apply Kd.Q_drewN | apply Kd.Q_drew)); exact HO430.out⟩, ⟨by (with_reducible repeat (first | apply Kd.R_alloc | apply Kd.R_drewN | apply Kd.R_drew)); exact Kd.R_mono HO434.out (fun _ hk => trivial)⟩, ⟨by repeat (first | (with_reducible first | exact HB.out | apply below_alloc | apply pw_below_drewN | apply below_drew1) | exact HB.out)⟩⟩
      · rw [if_neg c16] at H
        have c16b0 : (t432 == t436) = false := beq_eq_false_iff_ne.mpr c16
        have c16b1 : (t432 != t436) = true := bne_iff_ne.mpr c16
        (first | rw [c16b0] | (simp only [i64_w, i32_w]; rw [c16b0]) | skip)
        have H' := Aside0.mk H
        clear H
        go_wp2
        go_meet
        case rel => exact ⟨_, (true), (by first | rfl | (simp; done) | (simp [*]; done)), H', ⟨by first | omega | exact Nat.le_refl _⟩, ⟨by (with_reducible repeat (first | apply Kd.Q_alloc | apply Kd.Q_drewN | apply Kd.Q_drew)); exact HO430.out⟩, ⟨by (with_reducible repeat (first | apply Kd.R_alloc | apply Kd.R_drewN | apply Kd.R_drew)); exact Kd.R_mono HO434.out (fun _ hk => trivial)⟩, ⟨by repeat (first | (with_reducible first | exact HB.out | apply below_alloc | apply pw_below_drewN | apply below_drew1) | exact HB.out)⟩⟩
    case rest =>
      clear HC15
      try clear c1
      try clear c2
      try clear p2
      try clear c3
      try clear c6
      try clear c16
      try clear c16b0
      try clear c16b1
      try clear c18
      try clear c20
      try clear c21
      try clear c21b0
      try clear c21b1
      obtain ⟨kq, x58_14, rfl, HA, HJ14, HO_3, HO_4, HB⟩ := hcut
      cases kq with
      | zero => exact absurd HA.out (by simp [laws_FnTileEdges.j0])
      | succ kj14 =>
        have H := HA.out
        clear HA
        simp only [laws_FnTileEdges.j0] at H
        by_cases c22 : x58_14 = true
        · subst c22
          have H1 : (some false) = some r := by rw [if_pos rfl] at H; exact H
          clear H
          have H := H1
          clear H1
          obtain rfl := Option.some.inj H
          go_wp2
          go_ret
          exact ⟨by first | rfl | (simp [errW_none, errW_some] <;> rfl) | (simp [*, errW_none, errW_some] <;> rfl), by repeat (first | (with_reducible first | exact HB.out | apply below_alloc | apply pw_below_drewN | apply below_drew1) | exact HB.out)⟩
        · replace c22 := Bool.eq_false_iff.mpr c22
          subst c22
          have H1 : (if t432 = 0 then (laws_FnTileEdges.j1 kj14 t428 t431 t439 ((t428.length : Int) == 0)) else (laws_FnTileEdges.j1 kj14 t428 t431 t439 true)) = some r := by rw [if_neg (show ¬ (false = true) by decide)] at H; exact H
          clear H
          have H := H1
          clear H1
          have HC23 := Aside0.mk H
          clear H
          go_upto_region 10 with (fail)
          go_cut [65] (fun v65 wc => ∃ (kq : Nat) (x65_22 : Bool), v65 = .bool x65_22 ∧ Aside0 (laws_FnTileEdges.j1 kq t428 t431 t439 x65_22 = some r) ∧ Aside0 (kq ≤ kj14) ∧ Aside0 (Kd.Q k24 24 wc w.heap.size (fun _ => True) (.slice Ao7 t428.length co7) t428) ∧ Aside0 (Kd.R (Kd.int .i64) 2 wc w.heap.size (fun _ => True) v433 t431) ∧ Aside0 (Below w.heap.size w wc))
          case first =>
            have H := HC23.out
            clear HC23
            by_cases c24 : t432 = 0
            · rw [if_pos c24] at H
              have c24b0 : (t432 == 0) = true := beq_iff_eq.mpr c24
              have c24b1 : (t432 != 0) = false := bne_eq_false_iff_eq.mpr c24
              clear c24
              (first | rw [c24b0] | (simp only [i64_w, i32_w]; rw [c24b0]) | skip)
              have H' := Aside0.mk H
              clear H
              go_wp2
              go_meet
              case rel => exact ⟨_, (((t428.length : Int) == 0)), (by first | rfl | (simp; done) | (simp [*]; done)), H', ⟨by have := HJ14.out; first | omega | exact Nat.le_refl _⟩, ⟨by (with_reducible repeat (first | apply Kd.Q_alloc | apply Kd.Q_drewN | apply Kd.Q_drew)); exact HO_3.out⟩, ⟨by (with_reducible repeat (first | apply Kd.R_alloc | apply Kd.R_drewN | apply Kd.R_drew)); exact HO_4.out⟩, ⟨by repeat (first | (with_reducible first | exact HB.out | apply below_alloc | apply pw_below_drewN | apply below_drew1) | exact HB.out)⟩⟩
            · rw [if_neg c24] at H
              have c24b0 : (t432 == 0) = false := beq_eq_false_iff_ne.mpr c24
              have c24b1 : (t432 != 0) = true := bne_iff_ne.mpr c24
              (first | rw [c24b0] | (simp only [i64_w, i32_w]; rw [c24b0]) | skip)
              have H' := Aside0.mk H
              clear H
              go_wp2
              go_meet
              case rel => exact ⟨_, (true), (by first | rfl | (simp; done) | (simp [*]; done)), H', ⟨by have := HJ14.out; first | omega | exact Nat.le_refl _⟩, ⟨by (with_reducible repeat (first | apply Kd.Q_alloc | apply Kd.Q_drewN | apply Kd.Q_drew)); exact HO_3.out⟩, ⟨by (with_reducible repeat (first | apply Kd.R_alloc | apply Kd.R_drewN | apply Kd.R_drew)); exact HO_4.out⟩, ⟨by repeat (first | (with_reducible first | exact HB.out | apply below_alloc | apply pw_below_drewN | apply below_drew1) | exact HB.out)⟩⟩
          case rest =>
            clear HC23
            try clear c1
            try clear c2
            try clear p2
            try clear c3
            try clear c6
            try clear c16
            try clear c16b0
            try clear c16b1
            try clear c18
            try clear c20
            try clear c21
            try clear c21b0
            try clear c21b1
            try clear c22
            try clear c23
            try clear c24
            try clear c24b0
            try clear c24b1
            try clear p2
            obtain ⟨kq, x65_22, rfl, HA, HJ22, HO_3, HO_4, HB⟩ := hcut
            cases kq with
            | zero => exact absurd HA.out (by simp [laws_FnTileEdges.j1])
            | succ kj22 =>
              have H := HA.out
              clear HA
              simp only [laws_FnTileEdges.j1] at H
              by_cases c25 : x65_22 = true
              · subst c25
                have H1 : (some true) = some r := by rw [if_pos rfl] at H; exact H
                clear H
                have H := H1
                clear H1
                obtain rfl := Option.some.inj H
                go_wp2
                go_ret
                exact ⟨by first | rfl | (simp [errW_none, errW_some] <;> rfl) | (simp [*, errW_none, errW_some] <;> rfl), by repeat (first | (with_reducible first | exact HB.out | apply below_alloc | apply pw_below_drewN | apply below_drew1) | exact HB.out)⟩
              · replace c25 := Bool.eq_false_iff.mpr c25
                subst c25
                have H1 : (if 1 ≤ (t428.length : Int) then ((impl_EdgeSum.f kj22 (t428.take 1)).bind fun bt448 => ((impl_EdgeSum.f kj22 (t428.drop 1)).bind fun bt454 => (if bt448.2 = 0 then (if bt454.2 = 0 then (if (wrap64 (bt448.1 + bt454.1)) = t439 then ((laws_sum.f kj22 t431).bind fun t456 => (some (t456 == (t428.length : Int)))) else (some false)) else (some false)) else (some false)))) else (none)) = some r := by rw [if_neg (show ¬ (false = true) by decide)] at H; exact H
                clear H
                have H := H1
                clear H1
                by_cases c26 : 1 ≤ (t428.length : Int)
                · rw [if_pos c26] at H
                  have c26b0 := eq_true c26
                  have c26b1 : decide (1 ≤ (t428.length : Int)) = true := decide_eq_true c26
                  clear c26
                  obtain ⟨y444, hy444⟩ : ∃ y_ : List (S24), y_ = (t428.take 1) := ⟨_, rfl⟩
                  replace H : ((impl_EdgeSum.f kj22 y444).bind fun bt448 => ((impl_EdgeSum.f kj22 (t428.drop 1)).bind fun bt454 => (if bt448.2 = 0 then (if bt454.2 = 0 then (if (wrap64 (bt448.1 + bt454.1)) = t439 then ((laws_sum.f kj22 t431).bind fun t456 => (some (t456 == (t428.length : Int)))) else (some false)) else (some false)) else (some false)))) = some r := by first | (rw [hy444]; with_reducible exact H) | (have H2_ := (Option.bind_some _ _).symm.trans H; rw [hy444]; with_reducible exact H2_) | (have H2_ := (Option.bind_some _ _).symm.trans H; with_reducible exact H2_) | with_reducible exact H | (rw [hy444]; exact H) | exact H
                  have Ny444 := Aside0.mk hy444
                  clear hy444
                  replace H := Option.bind_eq_some_iff.mp H
                  obtain ⟨⟨t448, t449⟩, A270, H⟩ := H
                  replace H : ((impl_EdgeSum.f kj22 (t428.drop 1)).bind fun bt454 => (if t449 = 0 then (if bt454.2 = 0 then (if (wrap64 (t448 + bt454.1)) = t439 then ((laws_sum.f kj22 t431).bind fun t456 => (some (t456 == (t428.length : Int)))) else (some false)) else (some false)) else (some false))) = some r := H
                  have A27 := Aside0.mk A270
                  clear A270
                  have H0_ := Aside0.mk H
                  clear H
                  have q28 : (1 : Int) ≤ ((t428.length : Int) : Int) := of_decide_eq_true (by first | (with_reducible assumption) | assumption)
                  obtain ⟨i028, hi028, _, hsz28, _⟩ := info_parts info24
                  have hroom28 : t428.length ≤ co7 := (Kd.Q_reads' HO_3.out).2.1
                  have hC28 : Kd.C k24 _ Ao7 t428.length t428 := (Kd.Q_reads' HO_3.out).2.2
                  have hcut28 := cut_to (P := Try.prog) 34 24 .i64 Try.underlying34 hi028 Ao7 t428.length co7 1 (by omega) q28 hroom28
                  have hr28 := Kd.C_take (m := 1) hC28 (by omega)
                  have hy28 : y444.length = (1 : Int).toNat := (by rw [Ny444.out, List.length_take]; omega)
                  rw [← Ny444.out] at hr28
                  rw [← hy28] at hcut28
                  have HR447 := Aside0.mk hr28
                  have HC447 := Aside0.mk (show y444.length ≤ co7 from by omega)
                  clear hr28 hC28 hroom28 hi028 hsz28
                  have KY28 := Aside0.mk hy28
                  clear hy28
                  have KL28 := Aside0.mk (show 1 ≤ t428.length from by omega)
                  replace q28 := eq_true q28
                  go_wp2_with (first | ((with_reducible refine gate_callee (f := 20) rfl ?_); refine goesL_ (some 69) rfl rfl Try.func20 (by kernel_rfl) rfl #[.slice Ao7 y444.length co7] rfl (by (try simp only [List.map_toArray, List.map_cons, List.map_nil]); first | done | rfl | (simp only [List.length_drop, List.length_take]; rfl)) ?_; (with_reducible refine (impl_EdgeSum.calls kj22 _ _ y444 t448 t449 _ ?side1 ?side2 A27.out).mono ?_); (case side1 => repeat (first | exact (by repeat (first | (with_reducible exact HR447.out) | (with_reducible refine Kd.C_alloc ?_ _) | (with_reducible refine Kd.C_drewN ?_ _) | (with_reducible refine Kd.C_drew ?_) | exact HR447.out)) | (with_reducible refine Kd.C_alloc ?_ _) | (with_reducible refine Kd.C_drewN ?_ _) | (with_reducible refine Kd.C_drew ?_))); (case side2 => exact HC447.out); rintro e w29 ⟨rfl, hb⟩; refine ⟨_, rfl, ?_⟩; have n0_ := Aside0.mk (Kd.Q_below (by (with_reducible repeat (first | apply Kd.Q_alloc | apply Kd.Q_drewN | apply Kd.Q_drew)); exact HO_3.out) hb); have n1_ := Aside0.mk (Kd.R_below (by (with_reducible repeat (first | apply Kd.R_alloc | apply Kd.R_drewN | apply Kd.R_drew)); exact HO_4.out) hb); have n2_ := Aside0.mk (Kd.C_below (by repeat (first | (with_reducible exact HR447.out) | (with_reducible refine Kd.C_alloc ?_ _) | (with_reducible refine Kd.C_drewN ?_ _) | (with_reducible refine Kd.C_drew ?_) | exact HR447.out)) hb); have n3_ := Aside0.mk (below_step (by repeat (first | (with_reducible first | exact HB.out | apply below_alloc | apply pw_below_drewN | apply below_drew1) | exact HB.out)) hb); clear HO_3; clear HO_4; clear HR447; clear HB; have HO_3 := n0_; have HO_4 := n1_; have HR447 := n2_; have HB := n3_; clear n0_ n1_ n2_ n3_; (try clear hb); (try clear hb2); (try clear hk); (try clear hi); refine Stop0.out ?_))
                  refine Stop0.mk ?_
                  have H := H0_.out
                  clear H0_
                  have c30b0 := eq_true (of_decide_eq_true (by first | (with_reducible assumption) | assumption) : 1 ≤ (t428.length : Int))
                  obtain ⟨y450, hy450⟩ : ∃ y_ : List (S24), y_ = (t428.drop 1) := ⟨_, rfl⟩
                  replace H : ((impl_EdgeSum.f kj22 y450).bind fun bt454 => (if t449 = 0 then (if bt454.2 = 0 then (if (wrap64 (t448 + bt454.1)) = t439 then ((laws_sum.f kj22 t431).bind fun t456 => (some (t456 == (t428.length : Int)))) else (some false)) else (some false)) else (some false))) = some r := by first | (rw [hy450]; with_reducible exact H) | (have H2_ := (Option.bind_some _ _).symm.trans H; rw [hy450]; with_reducible exact H2_) | (have H2_ := (Option.bind_some _ _).symm.trans H; with_reducible exact H2_) | with_reducible exact H | (rw [hy450]; exact H) | exact H
                  have Ny450 := Aside0.mk hy450
                  clear hy450
                  replace H := Option.bind_eq_some_iff.mp H
                  obtain ⟨⟨t454, t455⟩, A310, H⟩ := H
                  replace H : (if t449 = 0 then (if t455 = 0 then (if (wrap64 (t448 + t454)) = t439 then ((laws_sum.f kj22 t431).bind fun t456 => (some (t456 == (t428.length : Int)))) else (some false)) else (some false)) else (some false)) = some r := H
                  have A31 := Aside0.mk A310
                  clear A310
                  have H0_ := Aside0.mk H
                  clear H
                  have q32 : (1 : Int) ≤ ((t428.length : Int) : Int) := of_decide_eq_true (by first | (with_reducible assumption) | assumption)
                  obtain ⟨i032, hi032, _, hsz32, _⟩ := info_parts info24
                  have hroom32 : t428.length ≤ co7 := (Kd.Q_reads' HO_3.out).2.1
                  have hC32 : Kd.C k24 _ Ao7 t428.length t428 := (Kd.Q_reads' HO_3.out).2.2
                  have hcut32 := cut_from (P := Try.prog) 34 24 .i64 Try.underlying34 hi032 4 hsz32 Ao7 t428.length co7 1 (by omega) q32
                  have hr32 := Kd.C_drop (m := (1 : Int).toNat) (c := co7) hC32 (by omega) hroom32
                  obtain ⟨A32, hA32⟩ : ∃ A1, A1 = (if co7 = (1 : Int).toNat then Ao7 else (Ao7 : Option Addr).map (·.add ((1 : Int).toNat * 4))) := ⟨_, rfl⟩
                  obtain ⟨c32, hc32⟩ : ∃ c1, c1 = co7 - (1 : Int).toNat := ⟨_, rfl⟩
                  have hy32 : y450.length = t428.length - (1 : Int).toNat := (by rw [Ny450.out, List.length_drop] <;> omega)
                  rw [show (t428).drop (1 : Int).toNat = y450 from Ny450.out.symm] at hr32
                  replace hr32 : Kd.C k24 _ A32 y450.length y450 := (by rw [hA32]; exact hr32)
                  rw [← hy32, ← hA32, ← hc32] at hcut32
                  have HR453 := Aside0.mk hr32
                  have HC453 := Aside0.mk (show y450.length ≤ c32 from by rw [hy32, hc32]; exact Nat.sub_le_sub_right hroom32 _)
                  clear hr32 hC32 hroom32 hi032 hsz32 hc32
                  have KY32 := Aside0.mk hy32
                  have KA32 := Aside0.mk hA32
                  clear hy32 hA32
                  have KL32 := Aside0.mk (show 1 ≤ t428.length from by omega)
                  replace q32 := eq_true q32
                  go_wp2_with (first | ((with_reducible refine gate_callee (f := 20) rfl ?_); refine goesL_ (some 75) rfl rfl Try.func20 (by kernel_rfl) rfl #[.slice A32 y450.length c32] rfl (by (try simp only [List.map_toArray, List.map_cons, List.map_nil]); first | done | rfl | (simp only [List.length_drop, List.length_take]; rfl)) ?_; (with_reducible refine (impl_EdgeSum.calls kj22 _ _ y450 t454 t455 _ ?side1 ?side2 A31.out).mono ?_); (case side1 => repeat (first | exact (by repeat (first | (with_reducible exact HR453.out) | (with_reducible refine Kd.C_alloc ?_ _) | (with_reducible refine Kd.C_drewN ?_ _) | (with_reducible refine Kd.C_drew ?_) | exact HR453.out)) | (with_reducible refine Kd.C_alloc ?_ _) | (with_reducible refine Kd.C_drewN ?_ _) | (with_reducible refine Kd.C_drew ?_))); (case side2 => exact HC453.out); rintro e w33 ⟨rfl, hb⟩; refine ⟨_, rfl, ?_⟩; have n0_ := Aside0.mk (Kd.Q_below (by (with_reducible repeat (first | apply Kd.Q_alloc | apply Kd.Q_drewN | apply Kd.Q_drew)); exact HO_3.out) hb); have n1_ := Aside0.mk (Kd.R_below (by (with_reducible repeat (first | apply Kd.R_alloc | apply Kd.R_drewN | apply Kd.R_drew)); exact HO_4.out) hb); have n2_ := Aside0.mk (Kd.C_below (by repeat (first | (with_reducible exact HR447.out) | (with_reducible refine Kd.C_alloc ?_ _) | (with_reducible refine Kd.C_drewN ?_ _) | (with_reducible refine Kd.C_drew ?_) | exact HR447.out)) hb); have n3_ := Aside0.mk (Kd.C_below (by repeat (first | (with_reducible exact HR453.out) | (with_reducible refine Kd.C_alloc ?_ _) | (with_reducible refine Kd.C_drewN ?_ _) | (with_reducible refine Kd.C_drew ?_) | exact HR453.out)) hb); have n4_ := Aside0.mk (below_step (by repeat (first | (with_reducible first | exact HB.out | apply below_alloc | apply pw_below_drewN | apply below_drew1) | exact HB.out)) hb); clear HO_3; clear HO_4; clear HR447; clear HR453; clear HB; have HO_3 := n0_; have HO_4 := n1_; have HR447 := n2_; have HR453 := n3_; have HB := n4_; clear n0_ n1_ n2_ n3_ n4_; (try clear hb); (try clear hb2); (try clear hk); (try clear hi); refine Stop0.out ?_))
                  refine Stop0.mk ?_
                  have H := H0_.out
                  clear H0_
                  by_cases c34 : t449 = 0
                  · rw [if_pos c34] at H
                    have c34b0 : (t449 == 0) = true := beq_iff_eq.mpr c34
                    have c34b1 : (t449 != 0) = false := bne_eq_false_iff_eq.mpr c34
                    clear c34
                    by_cases c35 : t455 = 0
                    · rw [if_pos c35] at H
                      have c35b0 : (t455 == 0) = true := beq_iff_eq.mpr c35
                      have c35b1 : (t455 != 0) = false := bne_eq_false_iff_eq.mpr c35
                      clear c35
                      by_cases c36 : (wrap64 (t448 + t454)) = t439
                      · rw [if_pos c36] at H
                        have c36b0 : ((wrap64 (t448 + t454)) == t439) = true := beq_iff_eq.mpr c36
                        have c36b1 : ((wrap64 (t448 + t454)) != t439) = false := bne_eq_false_iff_eq.mpr c36
                        clear c36
                        replace H := Option.bind_eq_some_iff.mp H
                        obtain ⟨t456, A370, H⟩ := H
                        replace H : (some (t456 == (t428.length : Int))) = some r := H
                        have A37 := Aside0.mk A370
                        clear A370
                        have H0_ := Aside0.mk H
                        clear H
                        obtain ⟨Ao38, co38, eo38⟩ := Kd.R_slice HO_4.out
                        subst eo38
                        go_wp2_with (first | (go_at_call 31; (with_reducible refine (laws_sum.calls kj22 _ _ t431 t456 _ ?side1 ?side2 A37.out).mono ?_); (case side1 => repeat (first | exact (Kd.R_reads' HO_4.out).2.2 | (with_reducible refine Kd.C_alloc ?_ _) | (with_reducible refine Kd.C_drewN ?_ _) | (with_reducible refine Kd.C_drew ?_))); (case side2 => exact (Kd.R_reads' HO_4.out).2.1); rintro e w' ⟨rfl, ⟨nd, rfl⟩⟩; refine Stop0.out ?_))
                        refine Stop0.mk ?_
                        have H := H0_.out
                        clear H0_
                        obtain rfl := Option.some.inj H
                        go_wp2
                        go_ret
                        exact ⟨by first | rfl | (simp [errW_none, errW_some] <;> rfl) | (simp [*, errW_none, errW_some] <;> rfl), by repeat (first | (with_reducible first | exact HB.out | apply below_alloc | apply pw_below_drewN | apply below_drew1) | exact HB.out)⟩
                      · rw [if_neg c36] at H
                        have c36b0 : ((wrap64 (t448 + t454)) == t439) = false := beq_eq_false_iff_ne.mpr c36
                        have c36b1 : ((wrap64 (t448 + t454)) != t439) = true := bne_iff_ne.mpr c36
                        obtain rfl := Option.some.inj H
                        go_wp2
                        go_ret
                        exact ⟨by first | rfl | (simp [errW_none, errW_some] <;> rfl) | (simp [*, errW_none, errW_some] <;> rfl), by repeat (first | (with_reducible first | exact HB.out | apply below_alloc | apply pw_below_drewN | apply below_drew1) | exact HB.out)⟩
                    · rw [if_neg c35] at H
                      have c35b0 : (t455 == 0) = false := beq_eq_false_iff_ne.mpr c35
                      have c35b1 : (t455 != 0) = true := bne_iff_ne.mpr c35
                      obtain rfl := Option.some.inj H
                      go_wp2
                      go_ret
                      exact ⟨by first | rfl | (simp [errW_none, errW_some] <;> rfl) | (simp [*, errW_none, errW_some] <;> rfl), by repeat (first | (with_reducible first | exact HB.out | apply below_alloc | apply pw_below_drewN | apply below_drew1) | exact HB.out)⟩
                  · rw [if_neg c34] at H
                    have c34b0 : (t449 == 0) = false := beq_eq_false_iff_ne.mpr c34
                    have c34b1 : (t449 != 0) = true := bne_iff_ne.mpr c34
                    obtain rfl := Option.some.inj H
                    go_wp2
                    go_ret
                    exact ⟨by first | rfl | (simp [errW_none, errW_some] <;> rfl) | (simp [*, errW_none, errW_some] <;> rfl), by repeat (first | (with_reducible first | exact HB.out | apply below_alloc | apply pw_below_drewN | apply below_drew1) | exact HB.out)⟩
                · rw [if_neg c26] at H
                  exact absurd H (by simp)

end Go.Proofs.Ytgcagmmghckbbaa.A

/- Arguments of a law opened as plain data, kind by kind: what can be read at a type is a value of its kind. -/
namespace Go.Proofs.Ytgcagmmghckbbaa.Opn
open Go.RowKit Go.Proofs.YtgcagmmghckbbaaW.PrintWords

/-- What reads at type t is a value of kind d, of which ok holds. -/
def Op {α : Type} (P : Program) (t : TypeId) (d : Kd α) (ok : α → Prop) : Prop :=
  ∀ (H : Type) (enc : TypeId × Value → H) (W : World) (fuel : Nat) (cs : List Value) (x : DataW H × List MemPlace),
    DataW.trod enc P W 0 (fun _ => true) true fuel t cs = some x → ∃ a : α, d.K W a cs ∧ ok a
def okInt (k : IntKind) (n : Int) : Prop := (Lit.int k n).wf = true
def okAll {α : Type} (ok : α → Prop) (l : List α) : Prop := l.length ≤ maxLen ∧ ∀ x ∈ l, ok x
theorem Op.int {P : Program} {t : TypeId} {k : IntKind} (ht : P.underlying t = some (.int k)) : Op P t (Kd.int k) (okInt k) := by
  intro H enc W fuel cs x h
  obtain ⟨n, rfl, _, hw⟩ := DataW.trod_int ht h
  exact ⟨n, rfl, hw⟩
theorem list_of_lt {α : Type} {p : Nat → α → Prop} : ∀ n, (∀ i, i < n → ∃ a, p i a) → ∃ l : List α, l.length = n ∧ ∀ i a, l[i]? = some a → p i a
  | 0, _ => ⟨[], rfl, fun i a h => by simp at h⟩
  | n + 1, h => by
    obtain ⟨l, hl, hp⟩ := list_of_lt n (fun i hi => h i (by omega))
    obtain ⟨a, ha⟩ := h n (by omega)
    refine ⟨l ++ [a], by simp [hl], fun i b hb => ?_⟩
    by_cases hi : i < l.length
    · rw [List.getElem?_append_left hi] at hb
      exact hp i b hb
    · have hlt : i < (l ++ [a]).length := (List.getElem?_eq_some_iff.1 hb).1
      simp at hlt
      have : i = l.length := by omega
      subst this
      have hab : a = b := by simpa using hb
      subst hab
      rw [hl]
      exact ha
theorem Op.slice {α : Type} {P : Program} {t e : TypeId} {d : Kd α} {ok : α → Prop} (ht : P.underlying t = some (.slice e)) (hc : P.cellsOf e = d.sz) (h : Op P e d ok) :
    Op P t (Kd.slice e d) (okAll ok) := by
  intro H enc W fuel cs x hx
  rcases Deep.open_slice ht hx with ⟨rfl, _⟩ | ⟨a, len, cap, m, n, D, Pl, rfl, hb, hl, hm, hmm, _, hel⟩
  · exact ⟨[], ⟨none, 0, rfl, Nat.le_refl _, rfl, by simp, fun h => absurd h (by simp)⟩, by simp [okAll]⟩
  · rw [if_pos rfl] at hmm
    subst hmm
    obtain ⟨l, hlen, hl2⟩ := list_of_lt (p := fun i (y : α) => (∃ c, c.length = d.sz ∧ d.K W y c ∧ ∀ j u, c[j]? = some u → W.cell? (a.add (i * d.sz + j)) = some u) ∧ ok y) len (fun i hi => by
      obtain ⟨cs', h1, h2⟩ := hel i (by omega)
      obtain ⟨y, hy, hok⟩ := h H enc W n cs' _ h2
      obtain ⟨_, h3, h4⟩ := World.cells?_some h1
      refine ⟨y, ⟨cs', d.K_len hy, hy, fun j u hu => ?_⟩, hok⟩
      have hj : j < P.cellsOf e := by rw [← h3]; exact (List.getElem?_eq_some_iff.1 hu).1
      have h5 := h4 j hj
      rw [← hu, ← h5, hc, Addr.add_add])
    unfold maxLen at hm
    refine ⟨l, ⟨some a, m, by rw [hlen], by omega, rfl, by omega, fun _ => ⟨a, rfl, fun j p hj => (hl2 j p hj).1⟩⟩, by unfold maxLen; omega, fun y hy => ?_⟩
    obtain ⟨i, hi, rfl⟩ := List.getElem_of_mem hy
    exact (hl2 i _ (List.getElem?_eq_getElem hi)).2
end Go.Proofs.Ytgcagmmghckbbaa.Opn

/- The plain statement of the law FnTileEdges, over numbers and lists alone, and how its arguments are opened. -/
namespace Go.Proofs.Ytgcagmmghckbbaa.A
open Go.RowKit Go.Proofs.YtgcagmmghckbbaaW.PrintWords Go.Proofs.YtgcagmmghckbbaaW.PrintLast Go.Proofs.YtgcagmmghckbbaaW.PrintMore
theorem op5 : Go.Proofs.Ytgcagmmghckbbaa.Opn.Op Try.prog 5 (Kd.int .u8) (Go.Proofs.Ytgcagmmghckbbaa.Opn.okInt .u8) := Go.Proofs.Ytgcagmmghckbbaa.Opn.Op.int Try.underlying5
theorem op44 : Go.Proofs.Ytgcagmmghckbbaa.Opn.Op Try.prog 44 (Kd.slice 5 (Kd.int .u8)) (Go.Proofs.Ytgcagmmghckbbaa.Opn.okAll (Go.Proofs.Ytgcagmmghckbbaa.Opn.okInt .u8)) := Go.Proofs.Ytgcagmmghckbbaa.Opn.Op.slice Try.underlying44 (by kernel_rfl) op5
def FnTileEdges.Pure : Prop := ∀ (a0 : List (Int)), (Go.Proofs.Ytgcagmmghckbbaa.Opn.okAll (Go.Proofs.Ytgcagmmghckbbaa.Opn.okInt .u8)) a0 → ∃ k, laws_FnTileEdges.f k a0 = some true
end Go.Proofs.Ytgcagmmghckbbaa.A




/- Plain words on rounds: loops over a list by its index, in 'from some number of rounds on' form. No program in sight. -/
namespace Go.Proofs.YtgcagmmghckbbaaW.PrintMore
open Go.RowKit Go.Proofs.YtgcagmmghckbbaaW.PrintWords

theorem wrap_succ (j : Nat) (h : j < 9223372036854775807) : wrap64 ((j : Int) + 1) = ((j + 1 : Nat) : Int) := by unfold wrap64; omega
theorem Ev.unfold {α : Type} {g f : Nat → Option α} {r : α} (h : ∀ k, g k = f k) (k : Ev f r) : Ev g r := Ev.congr h k
theorem Ev.val {α : Type} {g : Nat → Option α} {r : α} (h : ∀ k, g k = some r) : Ev g r := ⟨0, fun k _ => h k⟩
theorem Ev.bindc {α β : Type} {g : Option α} {f : Nat → α → Option β} {a : α} {r : β} (h : g = some a) (k : Ev (fun n => f n a) r) : Ev (fun n => g.bind (f n)) r := by
  subst h
  exact k
theorem Ev.succ {α : Type} {g : Nat → Option α} {r : α} (h : Ev (fun k => g (k + 1)) r) : Ev g r := Ev.step (fun _ => rfl) h
/-- A loop over a list by its index: from place j on it comes to 'v' of its state and of what is left. -/
theorem ev_list {α σ β : Type} (xs : List α) (l : σ → Int → Nat → Option β) (v : σ → List α → β)
    (hd : ∀ s, Ev (l s (xs.length : Int)) (v s []))
    (hs : ∀ s (j : Nat) (h : j < xs.length), (∀ s', Ev (l s' ((j + 1 : Nat) : Int)) (v s' (xs.drop (j + 1)))) → Ev (l s (j : Int)) (v s (xs[j] :: xs.drop (j + 1)))) :
    ∀ (n j : Nat) (s : σ), j + n = xs.length → Ev (l s (j : Int)) (v s (xs.drop j)) := by
  intro n
  induction n with
  | zero =>
    intro j s h
    have : j = xs.length := by omega
    subst this
    rw [List.drop_length]
    exact hd s
  | succ n ih =>
    intro j s h
    have hj : j < xs.length := by omega
    rw [List.drop_eq_getElem_cons hj]
    exact hs s j hj (fun s' => ih (j + 1) s' (by omega))
theorem ev_list0 {α σ β : Type} (xs : List α) (l : σ → Int → Nat → Option β) (v : σ → List α → β)
    (hd : ∀ s, Ev (l s (xs.length : Int)) (v s []))
    (hs : ∀ s (j : Nat) (h : j < xs.length), (∀ s', Ev (l s' ((j + 1 : Nat) : Int)) (v s' (xs.drop (j + 1)))) → Ev (l s (j : Int)) (v s (xs[j] :: xs.drop (j + 1)))) (s : σ) :
    Ev (l s 0) (v s xs) := by
  have := ev_list xs l v hd hs xs.length 0 s (by omega)
  simpa using this
/-- The same with an invariant of the state and the place. -/
theorem ev_listI {α σ β : Type} (xs : List α) (I : σ → Nat → Prop) (l : σ → Int → Nat → Option β) (v : σ → List α → β)
    (hd : ∀ s, I s xs.length → Ev (l s (xs.length : Int)) (v s []))
    (hs : ∀ s (j : Nat) (h : j < xs.length), I s j → (∀ s', I s' (j + 1) → Ev (l s' ((j + 1 : Nat) : Int)) (v s' (xs.drop (j + 1)))) → Ev (l s (j : Int)) (v s (xs[j] :: xs.drop (j + 1)))) :
    ∀ (n j : Nat) (s : σ), j + n = xs.length → I s j → Ev (l s (j : Int)) (v s (xs.drop j)) := by
  intro n
  induction n with
  | zero =>
    intro j s h hi
    have : j = xs.length := by omega
    subst this
    rw [List.drop_length]
    exact hd s hi
  | succ n ih =>
    intro j s h hi
    have hj : j < xs.length := by omega
    rw [List.drop_eq_getElem_cons hj]
    exact hs s j hj hi (fun s' hi' => ih (j + 1) s' (by omega) hi')
/-- A loop over places: an invariant, what is to be known of the answer, early ends. -/
theorem ev_inv {σ β : Type} (N : Nat) (I : σ → Nat → Prop) (Q : β → Prop) (l : σ → Int → Nat → Option β)
    (hd : ∀ s, I s N → ∃ r, Q r ∧ Ev (l s (N : Int)) r)
    (hs : ∀ s (j : Nat), j < N → I s j → (∃ r, Q r ∧ Ev (l s (j : Int)) r) ∨ ∃ s', I s' (j + 1) ∧ ∀ r, Ev (l s' ((j + 1 : Nat) : Int)) r → Ev (l s (j : Int)) r) :
    ∀ (n j : Nat) (s : σ), j + n = N → I s j → ∃ r, Q r ∧ Ev (l s (j : Int)) r := by
  intro n
  induction n with
  | zero =>
    intro j s h hi
    have : j = N := by omega
    subst this
    exact hd s hi
  | succ n ih =>
    intro j s h hi
    rcases hs s j (by omega) hi with h1 | ⟨s', hi', h1⟩
    · exact h1
    · obtain ⟨r, hq, hr⟩ := ih (j + 1) s' (by omega) hi'
      exact ⟨r, hq, h1 r hr⟩
theorem ev_inv0 {σ β : Type} (N : Nat) (I : σ → Nat → Prop) (Q : β → Prop) (l : σ → Int → Nat → Option β)
    (hd : ∀ s, I s N → ∃ r, Q r ∧ Ev (l s (N : Int)) r)
    (hs : ∀ s (j : Nat), j < N → I s j → (∃ r, Q r ∧ Ev (l s (j : Int)) r) ∨ ∃ s', I s' (j + 1) ∧ ∀ r, Ev (l s' ((j + 1 : Nat) : Int)) r → Ev (l s (j : Int)) r)
    (s : σ) (h0 : I s 0) : ∃ r, Q r ∧ Ev (l s 0) r := ev_inv N I Q l hd hs N 0 s (by omega) h0
/-- The same where the answer is known. -/
theorem ev_at {σ β : Type} (N : Nat) (I : σ → Nat → Prop) (r : β) (l : σ → Int → Nat → Option β)
    (hd : ∀ s, I s N → Ev (l s (N : Int)) r)
    (hs : ∀ s (j : Nat), j < N → I s j → ∃ s', I s' (j + 1) ∧ (Ev (l s' ((j + 1 : Nat) : Int)) r → Ev (l s (j : Int)) r))
    (s : σ) (h0 : I s 0) : Ev (l s 0) r := by
  have key : ∀ (n j : Nat) (s : σ), j + n = N → I s j → Ev (l s (j : Int)) r := by
    intro n
    induction n with
    | zero =>
      intro j s h hi
      have : j = N := by omega
      subst this
      exact hd s hi
    | succ n ih =>
      intro j s h hi
      obtain ⟨s', hi', h1⟩ := hs s j (by omega) hi
      exact h1 (ih (j + 1) s' (by omega) hi')
  exact key N 0 s (by omega) h0
theorem rd_nat (xs : List Int) (j : Nat) (h : j < xs.length) : rd xs (j : Int) = xs[j] := by unfold rd; simp [h]
theorem getD_nat {α : Type} (xs : List α) (d : α) (j : Nat) (h : j < xs.length) : xs.getD ((j : Int).toNat) d = xs[j] := by simp [h]
end Go.Proofs.YtgcagmmghckbbaaW.PrintMore

/- Plain laws of the jigsaw's small functions: ranges, tiles, turns. No memory in sight. -/
namespace Go.Proofs.Ytgcagmmghckbbaa.A
open Go.RowKit Go.Proofs.YtgcagmmghckbbaaW.PrintWords Go.Proofs.YtgcagmmghckbbaaW.PrintLast Go.Proofs.YtgcagmmghckbbaaW.PrintMore

abbrev Tl := S24
def inB (x lo hi : Int) : Bool := decide (lo ≤ x) && decide (x ≤ hi)
theorem l01In_eq (a b c : Int) : spec_l01In.f a b c = some (inB a b c) := by
  unfold spec_l01In.f inB
  by_cases h : a ≥ b
  · rw [if_pos h]; simp; omega
  · rw [if_neg h]; simp; omega
theorem within_eq (a b c : Int) : impl_within.f a b c = some (inB a b c) := by
  unfold impl_within.f inB
  by_cases h : a ≥ b
  · rw [if_pos h]; simp; omega
  · rw [if_neg h]; simp; omega
def okE (x : Int) : Bool := inB x (-9) 9
def okT (t : Tl) : Bool := okE t.f0 && (okE t.f1 && (okE t.f2 && okE t.f3))
theorem isTile_eq (t : Tl) : impl_isTile.f t.f0 t.f1 t.f2 t.f3 = some (okT t) := by
  unfold impl_isTile.f okT okE
  simp only [within_eq, Option.bind_some]
  cases inB t.f0 (-9) 9 <;> cases inB t.f1 (-9) 9 <;> cases inB t.f2 (-9) 9 <;> simp
theorem notTile_eq : impl_areTiles.p = fun t => !okT t := by
  funext t
  unfold impl_areTiles.p
  rw [isTile_eq]
  rfl
theorem areTiles_eq (k : Nat) (l : List Tl) : impl_areTiles.f k l = some (l.all okT) := by
  unfold impl_areTiles.f
  rw [notTile_eq]
  simp [List.all_eq_not_any_not]
theorem l30Codes_eq (a b c d : Int) : spec_l30Codes.f a b c d = some [a, b, c, d] := rfl
theorem l30Valid_round (k : Nat) (x0 : List Tl) (x3 a b c d : Int) :
    spec_l30Valid.l1 (k + 5) x0 x3 [a, b, c, d] 0 = if okE a && (okE b && (okE c && okE d)) then spec_l30Valid.l0 k x0 (wrap64 (x3 + 1)) else some false := by
  simp only [spec_l30Valid.l1, l01In_eq, Option.bind_some, rd]
  cases ha : okE a <;> cases hb : okE b <;> cases hc : okE c <;> cases hd : okE d <;> simp_all [okE, wrap64]
theorem l30Valid_ev (xs : List Tl) (h : xs.length ≤ maxLen) : Ev (fun k => spec_l30Valid.f k xs) (xs.all okT) := by
  unfold spec_l30Valid.f
  unfold maxLen at h
  refine ev_list0 xs (fun (_ : Unit) i k => spec_l30Valid.l0 k xs i) (fun _ l => l.all okT) (fun _ => ?_) (fun _ j hj ih => ?_) ()
  · exact Ev.step (f := fun _ => some true) (fun k => by simp only [spec_l30Valid.l0]; rw [if_neg (by omega)]) (Ev.now _)
  · refine Ev.step (f := fun k => spec_l30Valid.l1 k xs j [xs[j].f0, xs[j].f1, xs[j].f2, xs[j].f3] 0) (fun k => by
      simp only [spec_l30Valid.l0]
      rw [if_pos (by omega), if_pos (by omega)]
      simp only [l30Codes_eq, Option.bind_some, rd_T24, getD_nat xs _ j hj]) ?_
    obtain ⟨K, hK⟩ := ih ()
    refine ⟨K + 5, fun k hk => ?_⟩
    obtain ⟨m, rfl⟩ : ∃ m, k = m + 5 := ⟨k - 5, by omega⟩
    show spec_l30Valid.l1 (m + 5) _ _ _ _ = _
    rw [l30Valid_round, wrap_succ j (by omega), List.all_cons]
    show (if okT xs[j] = true then _ else _) = _
    cases okT xs[j]
    · rfl
    · simp only [if_true, Bool.true_and]
      exact hK m (by omega)
def turnT (t : Tl) (n : Int) : Tl := if n = 0 then t else if n = 1 then ⟨t.f3, t.f0, t.f1, t.f2⟩ else if n = 2 then ⟨t.f2, t.f3, t.f0, t.f1⟩ else ⟨t.f1, t.f2, t.f3, t.f0⟩
def tup (t : Tl) : Int × Int × Int × Int := (t.f0, t.f1, t.f2, t.f3)
theorem l30Turn_eq (t : Tl) (n : Int) (h0 : 0 ≤ n) (h1 : n ≤ 3) : spec_l30Turn.f t.f0 t.f1 t.f2 t.f3 n = some (tup (turnT t n)) := by
  unfold spec_l30Turn.f
  rw [l30Codes_eq, Option.bind_some]
  have : n = 0 ∨ n = 1 ∨ n = 2 ∨ n = 3 := by omega
  rcases this with rfl | rfl | rfl | rfl <;> simp [wrap64, rd, turnT, tup]
theorem inB_iff (x a b : Int) : inB x a b = true ↔ a ≤ x ∧ x ≤ b := by unfold inB; simp
end Go.Proofs.Ytgcagmmghckbbaa.A












/- Plain laws of what the laws do with tiles and numbers: copies, marks, comparisons; sums of edges, flat edges. -/
namespace Go.Proofs.Ytgcagmmghckbbaa.A
set_option linter.unusedSimpArgs false
set_option linter.unusedVariables false
open Go.RowKit Go.Proofs.YtgcagmmghckbbaaW.PrintWords Go.Proofs.YtgcagmmghckbbaaW.PrintLast Go.Proofs.YtgcagmmghckbbaaW.PrintMore

/-- The code of tiles alone. -/
def tilesC (l : List Tl) : Int := if l.all okT then if (l.length : Int) > 12 then 2 else 0 else 1
theorem l30Some_ev (l : List Tl) (h : l.length ≤ 1048576) : Ev (fun k => spec_l30Some.f k l) (tilesC l) := by
  unfold spec_l30Some.f tilesC
  refine Ev.bind (l30Valid_ev l (by simp [maxLen]; omega)) (Ev.val fun k => ?_)
  split <;> (try split) <;> rfl
theorem tilesCode_ev (l : List Tl) : Ev (fun k => impl_tilesCode.f k l) (tilesC l) := by
  unfold impl_tilesCode.f tilesC
  refine Ev.bind (Ev.val fun k => areTiles_eq k l) (Ev.val fun k => ?_)
  split <;> (try split) <;> rfl
def edges (s : Int) (l : List Tl) : Int := l.foldl (fun s t => wrap64 (s + t.f0 + t.f1 + t.f2 + t.f3)) s
def edgeOut (l : List Tl) : Int × Int := if tilesC l = 0 then (edges 0 l, 0) else (0, tilesC l)
theorem specEdgeSum_ev (l : List Tl) (h : l.length ≤ 1048576) : Ev (fun k => spec_EdgeSum.f k l) (edgeOut l) := by
  unfold spec_EdgeSum.f edgeOut
  refine Ev.bind (l30Some_ev l h) ?_
  by_cases c : tilesC l = 0
  · rw [if_pos c]
    simp only [c, if_true]
    refine ev_list0 l (fun s i k => spec_EdgeSum.l0 k l s i) (fun s r => (edges s r, 0)) (fun s => ?_) (fun s j hj ih => ?_) 0
    · exact Ev.step (f := fun _ => some (s, 0)) (fun k => by simp only [spec_EdgeSum.l0]; rw [if_neg (by omega)]) (Ev.now _)
    · refine Ev.step (fun k => ?_) (ih (wrap64 (s + l[j].f0 + l[j].f1 + l[j].f2 + l[j].f3)))
      simp only [spec_EdgeSum.l0, rd_T24, getD_nat l _ j hj]
      rw [if_pos (by omega), if_pos (by omega), wrap_succ j (by omega)]
      congr 1
      unfold wrap64
      omega
  · rw [if_neg c]
    exact Ev.val fun k => by rw [if_neg c]
theorem implEdgeSum_ev (l : List Tl) (h : l.length ≤ 1048576) : Ev (fun k => impl_EdgeSum.f k l) (edgeOut l) := by
  unfold impl_EdgeSum.f edgeOut
  refine Ev.bind (tilesCode_ev l) ?_
  by_cases c : tilesC l = 0
  · rw [if_pos c]
    simp only [c, if_true]
    refine ev_list0 l (fun s i k => impl_EdgeSum.l0 k s l (l.length : Int) i) (fun s r => (edges s r, 0)) (fun s => ?_) (fun s j hj ih => ?_) 0
    · exact Ev.step (f := fun _ => some (s, 0)) (fun k => by simp only [impl_EdgeSum.l0]; rw [if_neg (by omega)]) (Ev.now _)
    · refine Ev.step (fun k => ?_) (ih (wrap64 (s + l[j].f0 + l[j].f1 + l[j].f2 + l[j].f3)))
      simp only [impl_EdgeSum.l0, rd_T24, getD_nat l _ j hj]
      rw [if_pos (by omega), if_pos (by omega), if_pos (by omega), wrap_succ j (by omega)]
      congr 1
      unfold wrap64
      omega
  · rw [if_neg c]
    exact Ev.val fun k => by rw [if_neg c]
end Go.Proofs.Ytgcagmmghckbbaa.A

/- Plain laws of the flat edges. -/
namespace Go.Proofs.Ytgcagmmghckbbaa.A
set_option linter.unusedSimpArgs false
set_option linter.unusedVariables false
open Go.RowKit Go.Proofs.YtgcagmmghckbbaaW.PrintWords Go.Proofs.YtgcagmmghckbbaaW.PrintLast Go.Proofs.YtgcagmmghckbbaaW.PrintMore
def zc (a b c d : Int) : Nat := (if a = 0 then 1 else 0) + (if b = 0 then 1 else 0) + (if c = 0 then 1 else 0) + (if d = 0 then 1 else 0)
theorem zc_le (a b c d : Int) : zc a b c d ≤ 4 := by unfold zc; repeat' split
                                                     all_goals omega
def flatStep (s : List Int) (t : Tl) : List Int := s.set (zc t.f0 t.f1 t.f2 t.f3) (wrap64 (rd s (zc t.f0 t.f1 t.f2 t.f3 : Nat) + 1))
def flats (s : List Int) (l : List Tl) : List Int := l.foldl flatStep s
theorem flats_len (s : List Int) (l : List Tl) : (flats s l).length = s.length := by
  induction l generalizing s with
  | nil => rfl
  | cons t l ih =>
    show (flats (flatStep s t) l).length = _
    rw [ih]
    simp [flatStep]
def flatOut (l : List Tl) : List Int × Int := if tilesC l = 0 then (flats (List.replicate 5 0) l, 0) else ([], tilesC l)
theorem flatOut_len (l : List Tl) : (flatOut l).1.length ≤ 1048576 := by
  unfold flatOut
  split
  · simp only [flats_len]; simp
  · simp
theorem spec_l1 (k : Nat) (x0 : List Tl) (s : List Int) (x6 a b c d : Int) (hs : s.length = 5) :
    spec_FlatEdges.l1 (k + 5) x0 s x6 [a, b, c, d] 0 0 = spec_FlatEdges.l0 k x0 (s.set (zc a b c d) (wrap64 (rd s (zc a b c d : Nat) + 1))) (wrap64 (x6 + 1)) := by
  simp only [spec_FlatEdges.l1, rd, zc, hs]
  by_cases ha : a = 0 <;> by_cases hb : b = 0 <;> by_cases hc : c = 0 <;> by_cases hd : d = 0 <;> simp [ha, hb, hc, hd, wrap64, rd]
theorem impl_l1 (k : Nat) (x0 : List Tl) (s : List Int) (x18 x19 a b c d : Int) (hs : s.length = 5) :
    impl_FlatEdges.l1 (k + 5) s 0 x0 x18 x19 [a, b, c, d] 4 0 = impl_FlatEdges.l0 k (s.set (zc a b c d) (wrap64 (rd s (zc a b c d : Nat) + 1))) x0 x18 (wrap64 (x19 + 1)) := by
  simp only [impl_FlatEdges.l1, rd, zc, hs]
  by_cases ha : a = 0 <;> by_cases hb : b = 0 <;> by_cases hc : c = 0 <;> by_cases hd : d = 0 <;> simp [ha, hb, hc, hd, wrap64, rd]
theorem Ev.five {α : Type} {g f : Nat → Option α} {r : α} (h : ∀ k, g (k + 5) = f k) (k : Ev f r) : Ev g r := by
  obtain ⟨K, k⟩ := k
  refine ⟨K + 5, fun n hn => ?_⟩
  obtain ⟨m, rfl⟩ : ∃ m, n = m + 5 := ⟨n - 5, by omega⟩
  rw [h]
  exact k m (by omega)
theorem specFlatEdges_ev (l : List Tl) (h : l.length ≤ 1048576) : Ev (fun k => spec_FlatEdges.f k l) (flatOut l) := by
  unfold spec_FlatEdges.f flatOut
  refine Ev.bind (l30Some_ev l h) ?_
  by_cases c : tilesC l = 0
  · rw [if_pos c]
    simp only [c, if_true, show (5 : Nat) ≤ 35184372088832 from by decide]
    have := ev_listI l (fun (s : List Int) _ => s.length = 5) (fun s i k => spec_FlatEdges.l0 k l s i) (fun s r => (flats s r, 0)) (fun s hi => ?_) (fun s j hj hi ih => ?_) l.length 0 (List.replicate 5 0) (by omega) rfl
    · simpa using this
    · exact Ev.step (f := fun _ => some (s, 0)) (fun k => by simp only [spec_FlatEdges.l0]; rw [if_neg (by omega)]) (Ev.now _)
    · refine Ev.step (f := fun k => spec_FlatEdges.l1 k l s j [l[j].f0, l[j].f1, l[j].f2, l[j].f3] 0 0) (fun k => ?_) ?_
      · simp only [spec_FlatEdges.l0, rd_T24, getD_nat l _ j hj, l30Codes_eq, Option.bind_some]
        rw [if_pos (by omega), if_pos (by omega)]
      · refine Ev.five (fun k => (spec_l1 k l s j _ _ _ _ hi).trans ?_) (ih (flatStep s l[j]) (by simp [flatStep, hi]))
        rw [wrap_succ j (by omega)]
        rfl
  · rw [if_neg c]
    exact Ev.val fun k => by rw [if_neg c]
theorem implFlatEdges_ev (l : List Tl) (h : l.length ≤ 1048576) : Ev (fun k => impl_FlatEdges.f k l) (flatOut l) := by
  unfold impl_FlatEdges.f flatOut
  refine Ev.bind (tilesCode_ev l) ?_
  by_cases c : tilesC l = 0
  · rw [if_pos c]
    simp only [c, if_true, show (5 : Nat) ≤ 35184372088832 from by decide]
    have := ev_listI l (fun (s : List Int) _ => s.length = 5) (fun s i k => impl_FlatEdges.l0 k s l (l.length : Int) i) (fun s r => (flats s r, 0)) (fun s hi => ?_) (fun s j hj hi ih => ?_) l.length 0 (List.replicate 5 0) (by omega) rfl
    · simpa using this
    · exact Ev.step (f := fun _ => some (s, 0)) (fun k => by simp only [impl_FlatEdges.l0]; rw [if_neg (by omega)]) (Ev.now _)
    · refine Ev.step (f := fun k => impl_FlatEdges.l1 k s 0 l l.length j [l[j].f0, l[j].f1, l[j].f2, l[j].f3] 4 0) (fun k => ?_) ?_
      · simp only [impl_FlatEdges.l0, rd_T24, getD_nat l _ j hj, Option.bind_some]
        rw [if_pos (by omega), if_pos (by omega), if_pos (by omega)]
        rfl
      · refine Ev.five (fun k => (impl_l1 k l s _ j _ _ _ _ hi).trans ?_) (ih (flatStep s l[j]) (by simp [flatStep, hi]))
        rw [wrap_succ j (by omega)]
        rfl
  · rw [if_neg c]
    exact Ev.val fun k => by rw [if_neg c]
end Go.Proofs.Ytgcagmmghckbbaa.A

/- The reference's source of drawn numbers: what it hands out is in its range, and it stays sound. Plain law, for every draw. -/
namespace Go.Proofs.Ytgcagmmghckbbaa.A
set_option linter.unusedSimpArgs false
set_option linter.unusedVariables false
open Go.RowKit Go.Proofs.YtgcagmmghckbbaaW.PrintWords Go.Proofs.YtgcagmmghckbbaaW.PrintLast Go.Proofs.YtgcagmmghckbbaaW.PrintMore
def CodeOk (c : List Int) : Prop := c.length ≤ 140737488351232 ∧ ∀ x ∈ c, 0 ≤ x ∧ x ≤ 255
def SrcOk (c : List Int) (p s : Int) : Prop := 0 ≤ p ∧ p ≤ c.length ∧ 0 ≤ s ∧ s < 2147483647
theorem codeOk_of {l : List Int} (h : l.length * 1 ≤ 140737488351232) (hw : ∀ x ∈ l, (Lit.int .u8 x).wf = true) : CodeOk l := by
  refine ⟨by omega, fun x hx => ?_⟩
  have := hw x hx
  simp [Lit.wf, IntKind.min, IntKind.max, IntKind.bits, IntKind.signed] at this
  omega
theorem rd_ok {c : List Int} (h : CodeOk c) {j : Int} (h0 : 0 ≤ j) (h1 : j < c.length) : 0 ≤ rd c j ∧ rd c j ≤ 255 := by
  obtain ⟨m, rfl⟩ := Int.eq_ofNat_of_zero_le h0
  have hm : m < c.length := by omega
  rw [rd_nat c m hm]
  exact h.2 _ (List.getElem_mem hm)
theorem tmod_range {x n : Int} (hx : 0 ≤ x) (hn : 0 < n) : 0 ≤ Int.tmod x n ∧ Int.tmod x n < n := by
  rw [Int.tmod_eq_emod_of_nonneg hx]
  exact ⟨Int.emod_nonneg _ (by omega), Int.emod_lt_of_pos _ hn⟩
theorem tdiv31 {x : Int} (hx : 0 ≤ x) : 0 ≤ Int.tdiv x 31 ∧ Int.tdiv x 31 ≤ x := by
  rw [Int.tdiv_eq_ediv_of_nonneg hx]
  omega
theorem next_ok {c : List Int} (hc : CodeOk c) {p s : Int} (h : SrcOk c p s) (n : Int) :
    ∃ r p' s', spec_l01Next.f c p s n = some (r, p', s') ∧ 0 ≤ r ∧ (n ≤ 1 → r = 0) ∧ (1 < n → r < n) ∧ SrcOk c p' s' := by
  obtain ⟨h0, h1, h2, h3⟩ := h
  have hl := hc.1
  unfold spec_l01Next.f
  by_cases d : n ≤ 1
  · rw [if_pos d]
    exact ⟨_, _, _, rfl, Int.le_refl _, fun _ => rfl, fun h => absurd h (by omega), h0, h1, h2, h3⟩
  · rw [if_neg d]
    have e1 : wrap64 (wrap64 (s * 48271) + 29) = s * 48271 + 29 := by unfold wrap64; omega
    rw [e1]
    obtain ⟨s', hs⟩ : ∃ s', s' = Int.tmod (s * 48271 + 29) 2147483647 := ⟨_, rfl⟩
    have hsr := tmod_range (x := s * 48271 + 29) (n := 2147483647) (by omega) (by omega)
    rw [← hs] at hsr ⊢
    have ht := tdiv31 hsr.1
    have hn0 : ¬ n = 0 := by omega
    by_cases q : p < c.length
    · rw [if_pos q, if_pos h0]
      have ep : wrap64 (p + 1) = p + 1 := by unfold wrap64; omega
      have ep2 : wrap64 (p + 1 - 1) = p := by unfold wrap64; omega
      have hr := rd_ok hc h0 q
      have er : wrap64 (rd c p) = rd c p := by unfold wrap64; omega
      have ed : wrap64 (Int.tdiv s' 31) = Int.tdiv s' 31 := by unfold wrap64; omega
      have es : wrap64 (Int.tdiv s' 31 + rd c p) = Int.tdiv s' 31 + rd c p := by unfold wrap64; omega
      have hS : SrcOk c (p + 1) s' := ⟨by omega, by omega, hsr.1, hsr.2⟩
      have A := tmod_range (x := rd c p) (n := n) hr.1 (by omega)
      have B := tmod_range (x := Int.tdiv s' 31 + rd c p) (n := n) (by omega) (by omega)
      by_cases d2 : n ≤ 256
      · rw [if_pos d2]
        rw [ep, ep2]
        by_cases d3 : Int.tmod (p + 1) 2 = 0
        · simp only [if_pos d3, if_pos h0, if_pos q, if_neg hn0, er]
          exact ⟨_, _, _, rfl, A.1, fun h => absurd h d, fun _ => A.2, hS⟩
        · simp only [if_neg d3, if_neg hn0, er, ed, es]
          exact ⟨_, _, _, rfl, B.1, fun h => absurd h d, fun _ => B.2, hS⟩
      · simp only [if_neg d2, ep, if_neg hn0, er, ed, es]
        exact ⟨_, _, _, rfl, B.1, fun h => absurd h d, fun _ => B.2, hS⟩
    · rw [if_neg q, if_neg hn0]
      have ed : wrap64 (Int.tdiv s' 31) = Int.tdiv s' 31 := by unfold wrap64; omega
      rw [ed]
      have A := tmod_range (x := Int.tdiv s' 31) (n := n) ht.1 (by omega)
      exact ⟨_, _, _, rfl, A.1, fun h => absurd h d, fun _ => A.2, h0, h1, hsr.1, hsr.2⟩
theorem from_ok {c : List Int} (hc : CodeOk c) : ∃ p s, SrcOk c p s ∧ Ev (fun k => spec_l01From.f k c) (c, p, s) := by
  have hl := hc.1
  unfold spec_l01From.f
  have key : ∃ r, (∃ p s, SrcOk c p s ∧ r = (c, p, s)) ∧ Ev (fun k => spec_l01From.l0 k c 0 c 0 61003) r := by
    refine ev_inv0 (min c.length 64) (fun (s : Int) _ => 0 ≤ s ∧ s < 2147483647) (fun r => ∃ p s, SrcOk c p s ∧ r = (c, p, s)) (fun s i k => spec_l01From.l0 k c i c 0 s) (fun s hi => ?_) (fun s j hj hi => .inr ?_) 61003 ⟨by omega, by omega⟩
    · refine ⟨(c, 0, s), ⟨0, s, ⟨Int.le_refl _, by omega, hi.1, hi.2⟩, rfl⟩, Ev.step (f := fun _ => some (c, 0, s)) (fun k => ?_) (Ev.now _)⟩
      simp only [spec_l01From.l0]
      by_cases q : ((min c.length 64 : Nat) : Int) < (c.length : Int)
      · rw [if_pos q, if_neg (by omega)]
      · rw [if_neg q]
    · have hjl : j < c.length := by omega
      have hr := rd_ok hc (j := (j : Int)) (by omega) (by omega)
      have er : wrap64 (rd c (j : Int)) = rd c (j : Int) := by unfold wrap64; omega
      have e : wrap64 (wrap64 (s * 47) + rd c (j : Int)) = s * 47 + rd c (j : Int) := by have := hi.1; have := hi.2; unfold wrap64; omega
      have hs := tmod_range (x := s * 47 + rd c (j : Int)) (n := 2147483647) (by have := hi.1; omega) (by omega)
      refine ⟨Int.tmod (s * 47 + rd c (j : Int)) 2147483647, hs, fun r h2 => Ev.step (fun k => ?_) h2⟩
      simp only [spec_l01From.l0]
      rw [if_pos (by omega), if_pos (by omega), if_pos (by omega), wrap_succ j (by omega), er, e]
  obtain ⟨r, ⟨p, s, h, rfl⟩, hr⟩ := key
  exact ⟨p, s, h, hr⟩
end Go.Proofs.Ytgcagmmghckbbaa.A

/- The draw of a jigsaw: it ends, in at most twelve tiles, a width and a height in range. Plain law. -/
namespace Go.Proofs.Ytgcagmmghckbbaa.A
set_option linter.unusedSimpArgs false
set_option linter.unusedVariables false
open Go.RowKit Go.Proofs.YtgcagmmghckbbaaW.PrintWords Go.Proofs.YtgcagmmghckbbaaW.PrintLast Go.Proofs.YtgcagmmghckbbaaW.PrintMore
/-- What a draw comes to. -/
def DrawOk (c : List Int) (r : List Tl × Int × Int × Int × Int) : Prop := r.1.length ≤ 12 ∧ 1 ≤ r.2.1 ∧ r.2.1 ≤ 5 ∧ 1 ≤ r.2.2.1 ∧ r.2.2.1 ≤ 4 ∧ SrcOk c r.2.2.2.1 r.2.2.2.2
theorem l30Draw_l1 {c : List Int} (hc : CodeOk c) (w h : Int) (hw : 1 ≤ w) (hw4 : w ≤ 4) (hh : 1 ≤ h) (hh4 : h ≤ 4) (tiles : List Tl) (hN : tiles.length ≤ 12) (hN1 : 1 ≤ tiles.length) (p s : Int) (hS : SrcOk c p s) :
    ∃ r, DrawOk c r ∧ Ev (fun k => spec_l30Draw.l1 k w h tiles [] 0 c p s) r := by
  refine ev_inv0 tiles.length (fun (z : List Tl × Int × Int) j => z.1.length = j ∧ SrcOk c z.2.1 z.2.2) (DrawOk c) (fun z i k => spec_l30Draw.l1 k w h tiles z.1 i c z.2.1 z.2.2) (fun z hi => ?_) (fun z j hj hi => .inr ?_) ([], p, s) ⟨rfl, hS⟩
  · obtain ⟨hl, hs⟩ := hi
    obtain ⟨i, p1, s1, e1, i0, iz, i1, hs1⟩ := next_ok hc hs (z.1.length : Int)
    obtain ⟨q, p2, s2, e2, q0, _, q1, hs2⟩ := next_ok hc hs1 16
    have hil : i < (z.1.length : Int) := by
      by_cases d : 1 < (z.1.length : Int)
      · exact i1 d
      · have := iz (by omega); omega
    have st : ∀ k, spec_l30Draw.l1 (k + 1) w h tiles z.1 (tiles.length : Int) c z.2.1 z.2.2 = _ := fun k => by
      simp only [spec_l30Draw.l1]
      rw [if_neg (by omega), e1, Option.bind_some, e2, Option.bind_some]
    have fin : ∀ r, DrawOk c r → (∀ k, spec_l30Draw.l1 (k + 1) w h tiles z.1 (tiles.length : Int) c z.2.1 z.2.2 = some r) → ∃ r, DrawOk c r ∧ Ev (fun k => spec_l30Draw.l1 k w h tiles z.1 (tiles.length : Int) c z.2.1 z.2.2) r := fun r hr h => ⟨r, hr, Ev.step (f := fun _ => some r) h (Ev.now _)⟩
    simp only [st] at fin
    by_cases c0 : q = 0
    · obtain ⟨x, p3, s3, e3, x0, _, x1, hs3⟩ := next_ok hc hs2 3
      refine fin (z.1.set i.toNat ⟨rd [-10, 9, 10] x, (rd_T24 z.1 i).f1, (rd_T24 z.1 i).f2, (rd_T24 z.1 i).f3⟩, w, h, p3, s3) ⟨by simp only [List.length_set]; omega, hw, by simp only; omega, hh, hh4, hs3⟩ fun k => ?_
      rw [if_pos c0, Option.bind_some, e3, Option.bind_some, if_pos x0, if_pos (by simpa using x1 (by omega)), if_pos i0, if_pos hil]
    · simp only [if_neg c0] at fin
      by_cases c1 : q = 1
      · refine fin (z.1.drop 1, w, h, p2, s2) ⟨by simp only [List.length_drop]; omega, hw, by simp only; omega, hh, hh4, hs2⟩ fun k => ?_
        rw [if_pos c1, if_pos (by omega)]
        rfl
      · simp only [if_neg c1] at fin
        by_cases c2 : q = 2
        · refine fin (z.1.set i.toNat ⟨(rd_T24 z.1 i).f0, (rd_T24 z.1 i).f1, (rd_T24 z.1 i).f2, wrap64 ((rd_T24 z.1 i).f3 + 1)⟩, w, h, p2, s2) ⟨by simp only [List.length_set]; omega, hw, by simp only; omega, hh, hh4, hs2⟩ fun k => ?_
          rw [if_pos c2, if_pos i0, if_pos hil]
        · simp only [if_neg c2] at fin
          by_cases c3 : q = 3
          · refine fin (z.1, w + 1, h, p2, s2) ⟨by simp only; omega, by simp only; omega, by simp only; omega, hh, hh4, hs2⟩ fun k => ?_
            rw [if_pos c3, show wrap64 (w + 1) = w + 1 from by unfold wrap64; omega]
          · simp only [if_neg c3] at fin
            by_cases c4 : q = 4
            · refine fin (z.1.set i.toNat ⟨(rd_T24 z.1 i).f0, (rd_T24 z.1 i).f1, wrap64 (-(rd_T24 z.1 i).f2), (rd_T24 z.1 i).f3⟩, w, h, p2, s2) ⟨by simp only [List.length_set]; omega, hw, by simp only; omega, hh, hh4, hs2⟩ fun k => ?_
              rw [if_pos c4, if_pos i0, if_pos hil]
            · refine fin (z.1, w, h, p2, s2) ⟨by simp only; omega, hw, by simp only; omega, hh, hh4, hs2⟩ fun k => ?_
              rw [if_neg c4]
  · obtain ⟨hl, hs⟩ := hi
    have ew : wrap64 ((z.1.length : Int) + 1) = ((j + 1 : Nat) : Int) := by rw [hl]; exact wrap_succ j (by omega)
    obtain ⟨i, p1, s1, e1, i0, i2, i1, hs1⟩ := next_ok hc hs (wrap64 ((z.1.length : Int) + 1))
    have hil : i ≤ (z.1.length : Int) := by
      rw [ew] at i1 i2
      by_cases d : 1 < ((j + 1 : Nat) : Int)
      · have := i1 d; omega
      · have := i2 (by omega); omega
    obtain ⟨n, p2, s2, e2, n0, _, n1, hs2⟩ := next_ok hc hs1 4
    refine ⟨(z.1.take i.toNat ++ [turnT (rd_T24 tiles (j : Int)) n] ++ z.1.drop i.toNat, p2, s2), ⟨by simp only [List.length_append, List.length_take, List.length_drop, List.length_cons, List.length_nil]; omega, hs2⟩, fun r h2 => Ev.step (fun k => ?_) h2⟩
    have t1 : (z.1.take i.toNat).length ≤ z.1.length := by rw [List.length_take]; omega
    simp only [spec_l30Draw.l1]
    rw [if_pos (by omega), e1]
    simp only [Option.bind_some, List.nil_append]
    rw [if_pos i0, if_pos hil, if_pos (by simp only [List.length_nil]; omega), if_pos (by omega), e2]
    simp only [Option.bind_some]
    rw [l30Turn_eq _ n n0 (by have := n1 (by omega); omega)]
    simp only [Option.bind_some, tup]
    rw [if_pos (by omega), if_pos (by simp only [List.length_append, List.length_take, List.length_drop, List.length_cons, List.length_nil]; omega), wrap_succ j (by omega)]
/-- From one place on: the loop goes on with one tile more. -/
def Goes (c : List Int) (w h kinds : Int) (j : Nat) (F : Nat → Option (List Tl × Int × Int × Int × Int)) : Prop :=
  ∃ (tiles : List Tl) (p s : Int), tiles.length = j + 1 ∧ SrcOk c p s ∧ ∀ r, Ev (fun k => spec_l30Draw.l0 k w h kinds tiles ((j + 1 : Nat) : Int) c p s) r → Ev F r
theorem Goes.step {c : List Int} {w h kinds : Int} {j : Nat} {F G : Nat → Option (List Tl × Int × Int × Int × Int)} (hF : ∀ k, F (k + 1) = G k) (g : Goes c w h kinds j G) : Goes c w h kinds j F := by
  obtain ⟨t, p, s, h1, h2, h3⟩ := g
  exact ⟨t, p, s, h1, h2, fun r hr => Ev.step hF (h3 r hr)⟩
theorem l30Draw_j3 {c : List Int} (hc : CodeOk c) (w h kinds : Int) (tiles : List Tl) (hN : tiles.length ≤ 12) (p s : Int) (hS : SrcOk c p s) (x0 x1 x2 x3 : Int) :
    Goes c w h kinds tiles.length (fun k => spec_l30Draw.j3 k w h kinds tiles (tiles.length : Int) c p s x0 x1 x2 x3) := by
  obtain ⟨a, p1, s1, e1, _, _, _, hs1⟩ := next_ok hc hS kinds
  obtain ⟨b, p2, s2, e2, _, _, _, hs2⟩ := next_ok hc hs1 2
  by_cases d : (wrap64 ((tiles.length : Int) + w)) < (wrap64 (w * h))
  · refine ⟨tiles ++ [⟨x0, x1, wrap64 ((wrap64 (1 + a)) * (wrap64 (1 - (wrap64 (2 * b))))), x3⟩], p2, s2, by simp, hs2, fun r hr => Ev.step (fun k => ?_) hr⟩
    simp only [spec_l30Draw.j3]
    rw [if_pos d, e1, Option.bind_some, e2, Option.bind_some, if_pos (by omega), wrap_succ _ (by omega)]
  · refine ⟨tiles ++ [⟨x0, x1, x2, x3⟩], p, s, by simp, hS, fun r hr => Ev.step (fun k => ?_) hr⟩
    simp only [spec_l30Draw.j3]
    rw [if_neg d, if_pos (by omega), wrap_succ _ (by omega)]
theorem l30Draw_j2 {c : List Int} (hc : CodeOk c) (w h kinds : Int) (hw : 1 ≤ w) (tiles : List Tl) (hN : tiles.length ≤ 12) (p s : Int) (hS : SrcOk c p s) (x0 x1 x2 x3 : Int) :
    Goes c w h kinds tiles.length (fun k => spec_l30Draw.j2 k w h kinds tiles (tiles.length : Int) c p s x0 x1 x2 x3) := by
  obtain ⟨a, p1, s1, e1, _, _, _, hs1⟩ := next_ok hc hS kinds
  obtain ⟨b, p2, s2, e2, _, _, _, hs2⟩ := next_ok hc hs1 2
  by_cases d : (Int.tmod (tiles.length : Int) w) < (wrap64 (w - 1))
  · refine Goes.step (fun k => ?_) (l30Draw_j3 hc w h kinds tiles hN p2 s2 hs2 x0 (wrap64 ((wrap64 (1 + a)) * (wrap64 (1 - (wrap64 (2 * b)))))) x2 x3)
    simp only [spec_l30Draw.j2]
    rw [if_neg (by omega), if_pos d, e1, Option.bind_some, e2, Option.bind_some]
  · refine Goes.step (fun k => ?_) (l30Draw_j3 hc w h kinds tiles hN p s hS x0 x1 x2 x3)
    simp only [spec_l30Draw.j2]
    rw [if_neg (by omega), if_neg d]
theorem l30Draw_j1 {c : List Int} (hc : CodeOk c) (w h kinds : Int) (hw : 1 ≤ w) (hw4 : w ≤ 4) (tiles : List Tl) (hN : tiles.length ≤ 12) (p s : Int) (hS : SrcOk c p s) (x0 x1 x2 x3 : Int) :
    Goes c w h kinds tiles.length (fun k => spec_l30Draw.j1 k w h kinds tiles (tiles.length : Int) c p s x0 x1 x2 x3) := by
  by_cases d : (tiles.length : Int) ≥ w
  · have e : wrap64 ((tiles.length : Int) - w) = (tiles.length : Int) - w := by unfold wrap64; omega
    refine Goes.step (fun k => ?_) (l30Draw_j2 hc w h kinds hw tiles hN p s hS (wrap64 (-((rd_T24 tiles (wrap64 ((tiles.length : Int) - w))).f2))) x1 x2 x3)
    simp only [spec_l30Draw.j1]
    rw [if_pos d, if_pos (by omega), if_pos (by omega)]
  · refine Goes.step (fun k => ?_) (l30Draw_j2 hc w h kinds hw tiles hN p s hS x0 x1 x2 x3)
    simp only [spec_l30Draw.j1]
    rw [if_neg d]
theorem l30Draw_l0 {c : List Int} (hc : CodeOk c) (w h kinds : Int) (hw : 1 ≤ w) (hw4 : w ≤ 4) (tiles : List Tl) (hN : tiles.length ≤ 12) (hlt : (tiles.length : Int) < wrap64 (w * h)) (p s : Int) (hS : SrcOk c p s) :
    Goes c w h kinds tiles.length (fun k => spec_l30Draw.l0 k w h kinds tiles (tiles.length : Int) c p s) := by
  by_cases d : (Int.tmod (tiles.length : Int) w) > 0
  · have hl : 1 ≤ tiles.length := by
      by_cases z : tiles.length = 0
      · rw [z] at d; simp at d
      · omega
    have e : wrap64 ((tiles.length : Int) - 1) = (tiles.length : Int) - 1 := by unfold wrap64; omega
    refine Goes.step (fun k => ?_) (l30Draw_j1 hc w h kinds hw hw4 tiles hN p s hS 0 0 0 (wrap64 (-((rd_T24 tiles (wrap64 ((tiles.length : Int) - 1))).f1))))
    simp only [spec_l30Draw.l0]
    rw [if_pos hlt, if_neg (by omega), if_pos d, if_pos (by omega), if_pos (by omega)]
  · refine Goes.step (fun k => ?_) (l30Draw_j1 hc w h kinds hw hw4 tiles hN p s hS 0 0 0 0)
    simp only [spec_l30Draw.l0]
    rw [if_pos hlt, if_neg (by omega), if_neg d]
theorem l30Draw_all {c : List Int} (hc : CodeOk c) (w h kinds : Int) (hw : 1 ≤ w) (hw4 : w ≤ 4) (hh : 1 ≤ h) (hh4 : h ≤ 4) (N : Nat) (hN : wrap64 (w * h) = N) (h12 : N ≤ 12) (h1 : 1 ≤ N) (p s : Int) (hS : SrcOk c p s) :
    ∃ r, DrawOk c r ∧ Ev (fun k => spec_l30Draw.l0 k w h kinds [] 0 c p s) r := by
  refine ev_inv0 N (fun (z : List Tl × Int × Int) j => z.1.length = j ∧ SrcOk c z.2.1 z.2.2) (DrawOk c) (fun z i k => spec_l30Draw.l0 k w h kinds z.1 i c z.2.1 z.2.2) (fun z hi => ?_) (fun z j hj hi => .inr ?_) ([], p, s) ⟨rfl, hS⟩
  · obtain ⟨hl, hs⟩ := hi
    obtain ⟨r, hr, he⟩ := l30Draw_l1 hc w h hw hw4 hh hh4 z.1 (by omega) (by omega) z.2.1 z.2.2 hs
    refine ⟨r, hr, Ev.step (fun k => ?_) he⟩
    simp only [spec_l30Draw.l0]
    rw [if_neg (by omega)]
  · obtain ⟨hl, hs⟩ := hi
    obtain ⟨t, p', s', g1, g2, g3⟩ := l30Draw_l0 hc w h kinds hw hw4 z.1 (by omega) (by omega) z.2.1 z.2.2 hs
    rw [hl] at g1 g3
    exact ⟨(t, p', s'), ⟨g1, g2⟩, g3⟩
theorem l30Draw_ev {c : List Int} (hc : CodeOk c) (p s : Int) (hS : SrcOk c p s) : ∃ r, DrawOk c r ∧ Ev (fun k => spec_l30Draw.f k c p s) r := by
  obtain ⟨i, p1, s1, e1, i0, _, i1, hs1⟩ := next_ok hc hS 8
  have i8 := i1 (by omega)
  obtain ⟨b, p2, s2, e2, _, _, _, hs2⟩ := next_ok hc hs1 4
  have key : ∀ w h : Int, 1 ≤ w → w ≤ 4 → 1 ≤ h → h ≤ 4 → w * h ≤ 12 → rd_L4 [[2, 2], [3, 2], [2, 3], [3, 3], [1, 3], [4, 2], [1, 1], [3, 4]] i = [w, h] → ∃ r, DrawOk c r ∧ Ev (fun k => spec_l30Draw.f k c p s) r := by
    intro w h hw hw4 hh hh4 h12 he
    have h1 : 1 ≤ w * h := by have := Int.mul_le_mul hw hh (by omega) (by omega); omega
    obtain ⟨r, hr, hE⟩ := l30Draw_all hc w h (wrap64 (1 + b)) hw hw4 hh hh4 (w * h).toNat (by unfold wrap64; omega) (by omega) (by omega) p2 s2 hs2
    refine ⟨r, hr, Ev.unfold (fun k => ?_) hE⟩
    unfold spec_l30Draw.f
    rw [Option.bind_some, e1, Option.bind_some, if_pos i0, if_pos (by simpa using i8), he]
    simp only [List.length_cons, List.length_nil]
    rw [if_pos (by omega), if_pos (by omega), e2]
    rfl
  have : i = 0 ∨ i = 1 ∨ i = 2 ∨ i = 3 ∨ i = 4 ∨ i = 5 ∨ i = 6 ∨ i = 7 := by omega
  rcases this with rfl | rfl | rfl | rfl | rfl | rfl | rfl | rfl
  · exact key 2 2 (by omega) (by omega) (by omega) (by omega) (by omega) rfl
  · exact key 3 2 (by omega) (by omega) (by omega) (by omega) (by omega) rfl
  · exact key 2 3 (by omega) (by omega) (by omega) (by omega) (by omega) rfl
  · exact key 3 3 (by omega) (by omega) (by omega) (by omega) (by omega) rfl
  · exact key 1 3 (by omega) (by omega) (by omega) (by omega) (by omega) rfl
  · exact key 4 2 (by omega) (by omega) (by omega) (by omega) (by omega) rfl
  · exact key 1 1 (by omega) (by omega) (by omega) (by omega) (by omega) rfl
  · exact key 3 4 (by omega) (by omega) (by omega) (by omega) (by omega) rfl
end Go.Proofs.Ytgcagmmghckbbaa.A

/- TileEdges: of whatever tiles are drawn, both tell the same; the first tile's sum and the rest's make the whole's; every tile has one number of flat edges. -/
namespace Go.Proofs.Ytgcagmmghckbbaa.Pure
set_option linter.unusedSimpArgs false
set_option linter.unusedVariables false
open Go.RowKit Go.Proofs.YtgcagmmghckbbaaW.PrintWords Go.Proofs.YtgcagmmghckbbaaW.PrintLast Go.Proofs.YtgcagmmghckbbaaW.PrintMore Go.Proofs.Ytgcagmmghckbbaa.A
theorem drawEdgeSum_ev {c : List Int} (hc : CodeOk c) : ∃ l : List Tl, l.length ≤ 13 ∧ Ev (fun k => spec_DrawEdgeSum.f k c) l := by
  obtain ⟨p, s, hS, hF⟩ := from_ok hc
  obtain ⟨r, p1, s1, e1, _, _, _, hs1⟩ := next_ok hc hS 30
  unfold spec_DrawEdgeSum.f
  by_cases d : r = 0
  · obtain ⟨b, p2, s2, e2, b0, _, b1, _⟩ := next_ok hc hs1 2
    have e : wrap64 (12 + b) = 12 + b := by have := b1 (by omega); unfold wrap64; omega
    refine ⟨List.replicate (12 + b).toNat z24, by simp; have := b1 (by omega); omega, Ev.bind hF (Ev.bindc e1 ?_)⟩
    simp only [if_pos d]
    refine Ev.bindc e2 (Ev.val fun k => ?_)
    simp only [e]
    rw [if_pos (by omega), if_pos (by have := b1 (by omega); omega)]
  · obtain ⟨x, hx, hE⟩ := l30Draw_ev hc p1 s1 hs1
    refine ⟨x.1, by have := hx.1; omega, Ev.bind hF (Ev.bindc e1 ?_)⟩
    simp only [if_neg d]
    exact Ev.bind hE (Ev.now _)
theorem likeInts_ev (l : List Int) (h : l.length ≤ 1048576) : Ev (fun k => laws_likeInts.f k l l) true := by
  unfold laws_likeInts.f
  simp only [if_true]
  refine ev_at l.length (fun (_ : Unit) _ => True) true (fun _ i k => laws_likeInts.l0 k l l i) (fun s hi => ?_) (fun s j hj hi => ?_) () trivial
  · exact Ev.step (f := fun _ => some true) (fun k => by simp only [laws_likeInts.l0]; rw [if_neg (by omega)]) (Ev.now _)
  · refine ⟨(), trivial, fun h2 => Ev.step (fun k => ?_) h2⟩
    simp only [laws_likeInts.l0, if_true]
    rw [if_pos (by omega), if_pos (by omega), if_pos (by omega), wrap_succ j (by omega)]
def tot : List Tl → Int
  | [] => 0
  | t :: l => t.f0 + t.f1 + t.f2 + t.f3 + tot l
theorem okT_b {t : Tl} (h : okT t = true) : (-9 ≤ t.f0 ∧ t.f0 ≤ 9) ∧ (-9 ≤ t.f1 ∧ t.f1 ≤ 9) ∧ (-9 ≤ t.f2 ∧ t.f2 ≤ 9) ∧ (-9 ≤ t.f3 ∧ t.f3 ≤ 9) := by
  unfold okT okE at h
  simp only [Bool.and_eq_true, inB_iff] at h
  exact h
theorem edges_tot (l : List Tl) (s : Int) (h : l.all okT = true) (hs : -1000 ≤ s - 36 * l.length ∧ s + 36 * l.length ≤ 1000) : edges s l = s + tot l ∧ -(36 * (l.length : Int)) ≤ tot l ∧ tot l ≤ 36 * l.length := by
  induction l generalizing s with
  | nil => simp [edges, tot]
  | cons t l ih =>
    simp only [List.all_cons, Bool.and_eq_true] at h
    have b := okT_b h.1
    simp only [List.length_cons] at hs ⊢
    have e : wrap64 (s + t.f0 + t.f1 + t.f2 + t.f3) = s + (t.f0 + t.f1 + t.f2 + t.f3) := by unfold wrap64; omega
    obtain ⟨i1, i2, i3⟩ := ih (s + (t.f0 + t.f1 + t.f2 + t.f3)) h.2 (by omega)
    refine ⟨?_, by simp only [tot]; omega, by simp only [tot]; omega⟩
    show edges (wrap64 (s + t.f0 + t.f1 + t.f2 + t.f3)) l = _
    rw [e, i1]
    simp only [tot]
    omega
def Five (n : Int) (s : List Int) : Prop := ∃ a b c d e : Int, s = [a, b, c, d, e] ∧ 0 ≤ a ∧ 0 ≤ b ∧ 0 ≤ c ∧ 0 ≤ d ∧ 0 ≤ e ∧ a + b + c + d + e = n
theorem five_step {n : Int} {s : List Int} (h : Five n s) (hn : n ≤ 1000) (t : Tl) : Five (n + 1) (flatStep s t) := by
  obtain ⟨a, b, c, d, e, rfl, ha, hb, hc, hd, he, hs⟩ := h
  unfold flatStep
  have hz := zc_le t.f0 t.f1 t.f2 t.f3
  obtain ⟨z, hz'⟩ : ∃ z, z = zc t.f0 t.f1 t.f2 t.f3 := ⟨_, rfl⟩
  rw [← hz'] at hz ⊢
  have : z = 0 ∨ z = 1 ∨ z = 2 ∨ z = 3 ∨ z = 4 := by omega
  rcases this with rfl | rfl | rfl | rfl | rfl
  · exact ⟨a + 1, b, c, d, e, by simp [rd, wrap64]; omega, by omega, by omega, by omega, by omega, by omega, by omega⟩
  · exact ⟨a, b + 1, c, d, e, by simp [rd, wrap64]; omega, by omega, by omega, by omega, by omega, by omega, by omega⟩
  · exact ⟨a, b, c + 1, d, e, by simp [rd, wrap64]; omega, by omega, by omega, by omega, by omega, by omega, by omega⟩
  · exact ⟨a, b, c, d + 1, e, by simp [rd, wrap64]; omega, by omega, by omega, by omega, by omega, by omega, by omega⟩
  · exact ⟨a, b, c, d, e + 1, by simp [rd, wrap64]; omega, by omega, by omega, by omega, by omega, by omega, by omega⟩
theorem five_flats (l : List Tl) (n : Int) (s : List Int) (h : Five n s) (hn : n + l.length ≤ 1000) : Five (n + l.length) (flats s l) := by
  induction l generalizing n s with
  | nil => simpa [flats] using h
  | cons t l ih =>
    simp only [List.length_cons] at hn ⊢
    have := ih (n + 1) (flatStep s t) (five_step h (by omega) t) (by omega)
    rw [show n + ((l.length + 1 : Nat) : Int) = n + 1 + l.length from by omega]
    exact this
theorem five_sum {n : Int} {s : List Int} (h : Five n s) (hn : n ≤ 1000) : Ev (fun k => laws_sum.f k s) n := by
  obtain ⟨a, b, c, d, e, rfl, ha, hb, hc, hd, he, hs⟩ := h
  refine ⟨6, fun k hk => ?_⟩
  obtain ⟨m, rfl⟩ : ∃ m, k = m + 6 := ⟨k - 6, by omega⟩
  unfold laws_sum.f
  have w1 : wrap64 a = a := by unfold wrap64; omega
  have w2 : wrap64 (a + b) = a + b := by unfold wrap64; omega
  have w3 : wrap64 (a + b + c) = a + b + c := by unfold wrap64; omega
  have w4 : wrap64 (a + b + c + d) = a + b + c + d := by unfold wrap64; omega
  have w5 : wrap64 (a + b + c + d + e) = a + b + c + d + e := by unfold wrap64; omega
  have v1 : wrap64 1 = 1 := by unfold wrap64; omega
  have v2 : wrap64 2 = 2 := by unfold wrap64; omega
  have v3 : wrap64 3 = 3 := by unfold wrap64; omega
  have v4 : wrap64 4 = 4 := by unfold wrap64; omega
  have v5 : wrap64 5 = 5 := by unfold wrap64; omega
  simp [laws_sum.l0, rd, w1, w2, w3, w4, w5, v1, v2, v3, v4, v5, hs, show wrap64 n = n from by unfold wrap64; omega]
theorem FnTileEdges : Go.Proofs.Ytgcagmmghckbbaa.A.FnTileEdges.Pure := by
  intro c hcode
  apply Ev.rounds
  unfold laws_FnTileEdges.f
  by_cases big : (c.length : Int) > 4096
  · exact Ev.bindc (a := true) (by unfold laws_big.f; simp only [decide_eq_true big]) (Ev.val fun k => by simp)
  refine Ev.bindc (a := false) (by unfold laws_big.f; simp only [decide_eq_false big]) ?_
  simp only [Bool.false_eq_true, if_false]
  have hc : CodeOk c := codeOk_of (by omega) hcode.2
  obtain ⟨l, hl, hE⟩ := drawEdgeSum_ev hc
  have hL : l.length ≤ 1048576 := by omega
  have hf := flatOut_len l
  refine Ev.bind (a := l) (by unfold spec_DrawFlatEdges.f; exact Ev.bind hE (Ev.now _)) (Ev.bind (implFlatEdges_ev l hL) (Ev.bind (specFlatEdges_ev l hL) (Ev.bind (implEdgeSum_ev l hL) (Ev.bind (specEdgeSum_ev l hL) ?_))))
  simp only [if_true]
  refine Ev.bind (likeInts_ev _ hf) ?_
  simp only [if_true, bne_self_eq_false]
  refine Ev.succ ?_
  simp only [laws_FnTileEdges.j0, Bool.false_eq_true, if_false]
  by_cases ht : tilesC l = 0
  · have h2 : (flatOut l).2 = 0 := by unfold flatOut; rw [if_pos ht]
    simp only [h2, if_true]
    refine Ev.succ ?_
    simp only [laws_FnTileEdges.j1]
    by_cases hz : l.length = 0
    · exact Ev.val fun k => by simp [hz]
    · have hb : (((l.length : Int)) == 0) = false := by simpa using hz
      simp only [hb, Bool.false_eq_true, if_false, show (1 : Int) ≤ l.length from by omega, if_true]
      have hall : l.all okT = true ∧ l.length ≤ 12 := by
        unfold tilesC at ht
        by_cases a : l.all okT = true
        · rw [if_pos a] at ht
          refine ⟨a, ?_⟩
          by_cases q : (l.length : Int) > 12
          · rw [if_pos q] at ht; omega
          · omega
        · rw [if_neg a] at ht; omega
      have hall1 : (l.take 1).all okT = true := List.all_eq_true.2 fun x hx => List.all_eq_true.1 hall.1 x (List.mem_of_mem_take hx)
      have hall2 : (l.drop 1).all okT = true := List.all_eq_true.2 fun x hx => List.all_eq_true.1 hall.1 x (List.mem_of_mem_drop hx)
      have l1 : (l.take 1).length = 1 := by rw [List.length_take]; omega
      have l2 : (l.drop 1).length ≤ 12 := by rw [List.length_drop]; omega
      have t1 : tilesC (l.take 1) = 0 := by unfold tilesC; rw [if_pos hall1, if_neg (by omega)]
      have t2 : tilesC (l.drop 1) = 0 := by unfold tilesC; rw [if_pos hall2, if_neg (by omega)]
      have o0 : edgeOut l = (tot l, 0) := by unfold edgeOut; rw [if_pos ht, (edges_tot l 0 hall.1 (by omega)).1, Int.zero_add]
      have o1 : edgeOut (l.take 1) = (tot (l.take 1), 0) := by unfold edgeOut; rw [if_pos t1, (edges_tot _ 0 hall1 (by omega)).1, Int.zero_add]
      have o2 : edgeOut (l.drop 1) = (tot (l.drop 1), 0) := by unfold edgeOut; rw [if_pos t2, (edges_tot _ 0 hall2 (by omega)).1, Int.zero_add]
      have ts : tot (l.take 1) + tot (l.drop 1) = tot l := by
        cases l with
        | nil => simp at hz
        | cons t r => simp [tot]
      have tb := (edges_tot l 0 hall.1 (by omega)).2
      refine Ev.bind (implEdgeSum_ev _ (by omega)) (Ev.bind (implEdgeSum_ev _ (by omega)) ?_)
      have hw : wrap64 (tot l) = tot l := by unfold wrap64; omega
      simp only [o0, o1, o2, if_true, ts, hw]
      have h5 : Five 0 (List.replicate 5 0) := ⟨0, 0, 0, 0, 0, rfl, by omega, by omega, by omega, by omega, by omega, rfl⟩
      have h6 := five_flats l 0 _ h5 (by omega)
      have h1 : (flatOut l).1 = flats (List.replicate 5 0) l := by unfold flatOut; rw [if_pos ht]
      rw [h1]
      refine Ev.bind (five_sum h6 (by omega)) (Ev.val fun k => by simp)
  · have h2 : ¬ (flatOut l).2 = 0 := by unfold flatOut; rw [if_neg ht]; exact ht
    simp only [h2, if_false]
    refine Ev.succ ?_
    simp only [laws_FnTileEdges.j1, if_true]
    exact Ev.now _
end Go.Proofs.Ytgcagmmghckbbaa.Pure

