/- What the row of the law FnStates stands on, part 3. -/
import Derived.Test.YtcobnlilmihjfaaMFnStates2
namespace Go.Proofs.Ytcobnlilmihjfaa.A
open Go.RowKit Go.Proofs.YtcobnlilmihjfaaW.PrintWords Go.Proofs.YtcobnlilmihjfaaW.PrintLast Go.Proofs.YtcobnlilmihjfaaW.PrintMore
set_option linter.unusedVariables false
set_option linter.unusedSimpArgs false
section
attribute [local go_sem] max2_int min2_int max_two min_two max_three min_three max_four min_four
def spec_l27Moves.l0 : Nat → List (S94) → List Int → Int → List (List (S94)) → Option (List Int)
  | 0, _, _, _, _ => none
  | k + 1, x1, x5, x6, x476000 => if 0 ≤ (IntKind.u64.wrap ((x476000.length : Int))) then (if x6 < (shl .i64 6 (IntKind.u64.wrap ((x476000.length : Int)))) then ((spec_l27Possible.f k x476000 x1 x6).bind fun t479 => (if t479 = true then (if x5.length < 17592186044416 then (spec_l27Moves.l0 k x1 (x5 ++ [x6]) (wrap64 (x6 + 1)) x476000) else (none)) else (spec_l27Moves.l0 k x1 x5 (wrap64 (x6 + 1)) x476000))) else (some x5)) else (none)
def spec_l27Moves.f (k : Nat) (l0_0 : List (List (S94))) (l1 : List (S94)) : Option (List Int) := spec_l27Moves.l0 k l1 (([] : List Int)) 6 l0_0
set_option maxHeartbeats 8000000 in
set_option maxRecDepth 100000 in
theorem spec_l27Moves.calls (k : Nat) (A0_0 : Option Addr) (c0_0 : Nat) (l0_0 : List (List (S94))) (A1 : Option Addr) (c1 : Nat) (l1 : List (S94)) (r : List Int) (w : World) (hr0_0 : Kd.C (Kd.slice 94 k94) w A0_0 l0_0.length l0_0) (hc0_0 : l0_0.length ≤ c0_0) (hr1 : Kd.C k94 w A1 l1.length l1) (hc1 : l1.length ≤ c1) (h : spec_l27Moves.f k l0_0 l1 = some r) :
    Calls Try.prog 92 #[.agg #[.slice A0_0 l0_0.length c0_0], .slice A1 l1.length c1] w fun e w' => ∃ v0_ : Value, e = .returned (v0_) ∧ Kd.R (Kd.int .i64) 2 w' w.heap.size (fun _ => True) v0_ r ∧ Below w.heap.size w w' := by
 (have hu26 := Try.underlying26); (have HR0_0 := A0_ hr0_0); (have HC0_0 := A0_ hc0_0); clear hr0_0 hc0_0; (have HR1 := A0_ hr1); (have HC1 := A0_ hc1); clear hr1 hc1; (have HB := A0_ (Below.refl w.heap.size w)); (have H : (spec_l27Moves.l0 k l1 (([] : List Int)) 6 l0_0) = some r := h); clear h; (obtain ⟨y476, hy476⟩ : ∃ y_ : List Int, y_ = (([] : List Int)) := ⟨_, rfl⟩); (replace H : (spec_l27Moves.l0 k l1 y476 6 l0_0) = some r := by first | (rw [hy476]; with_reducible exact H) | (have H2_ := (Option.bind_some _ _).symm.trans H; rw [hy476]; with_reducible exact H2_) | (have H2_ := (Option.bind_some _ _).symm.trans H; with_reducible exact H2_) | with_reducible exact H | (rw [hy476]; exact H) | exact H); (have Ny476 := A0_ hy476); clear hy476; (have H' := A0_ H); clear H; (go_enter Try.func92, Try.ntmps92)
 go_wp2_with (first | ((with_reducible refine gate_dst (N := 2) rfl ?_); refine be_ (N := 2) (cs := #[.slice A0_0 l0_0.length c0_0]) (t := 26) ?_; intro gb475 hg w3 hbox hb; have n0_ := A0_ (below_step bw_ hb); have n1_ := A0_ (hbox); have n2_ := A0_ ((by rw [hg]; exact (below_size bw_) : w.heap.size ≤ gb475)); have n3_ := A0_ ((by rw [hg]; exact (below_size bw_) : w.heap.size ≤ gb475)); clear HB; have HB := n0_; have BK475 := n1_; have GW475 := n2_; have GE475 := n3_; clear n0_ n1_ n2_ n3_; clear hb hbox hg) | ((with_reducible refine gate_dst (N := 7) rfl ?_); refine Kd.R_lit (Kd.int .i64) _ 2 ?hg (N := 7) ?hd (xs := ([] : List Int)) (inner := []) (ok := fun _ => True) (okp := fun _ => True) ?hr ?hp (fun _ hk => hk) trivial (Below.refl _ _) (Nat.le_refl _) (by simp) ?_; (case hd => rfl); (case hg => rfl); (case hr => first | (go_simp; done) | (go_simp; rfl)); (case hp => exact (Reps.none _ _)); intro v477 w4 ho5 hb hg_ hnew_; clear hg_ hnew_; (first | rw [← Ny476.out] at ho5 | (simp only [Int.reduceToNat] at ho5; rw [← Ny476.out] at ho5)); have n0_ := A0_ (Kd.R_lower ho5 (below_size bx_)); have n1_ := A0_ (blk_below (g := gb475) (o := .cells #[.slice A0_0 l0_0.length c0_0] 26 (0, 0)) (bk_ BK475) hb); have n2_ := A0_ (below_step bx_ hb); clear BK475; clear HB; have HO478 := n0_; have BK475 := n1_; have HB := n2_; clear n0_ n1_ n2_; clear hb ho5))
 go_loopg [5, 6] k (fun kq v5 v6 w' => ∃ (x5_1 : List Int) (x6_1 : Int), v6 = .int .i64 x6_1 ∧ Aside0 (spec_l27Moves.l0 kq l1 x5_1 x6_1 l0_0 = some r) ∧ Aside0 (kq ≤ k) ∧ Aside0 (Kd.R (Kd.int .i64) 2 w' w.heap.size (fun _ => True) v5 x5_1) ∧ Aside0 (w'.heap[gb475]? = some (.cells #[(.slice A0_0 l0_0.length c0_0)] 26 (0, 0))) ∧ Aside0 (Below w.heap.size w w'))
 case atStart => exact ⟨(y476), (6), (by first | rfl | (simp; done) | (simp [*]; done)), H', ⟨Nat.le_refl _⟩, ⟨by (with_reducible repeat (first | apply Ra_ | apply Rn_ | apply Rd_)); exact HO478.out⟩, ⟨by exact bk_ BK475⟩, ⟨by repeat (first | (with_reducible first | exact HB.out | apply ba_ | apply bn_ | apply bd_ | refine below_set ?_ GE475.out) | exact HB.out)⟩⟩
 case round =>
  clear H'; (try clear c1); (try clear p2); (obtain ⟨x5_1, x6_1, rfl, HA, HK1, HO_5, BK475, HB⟩ := hrel)
  cases gk with
  | zero => exact absurd HA.out (by simp [spec_l27Moves.l0])
  | succ k1 =>
   (have H := HA.out); clear HA; (simp only [spec_l27Moves.l0] at H); (obtain ⟨ji6, hji6⟩ : ∃ j_ : Int, (IntKind.u64.wrap ((l0_0.length : Int))) = j_ := ⟨_, rfl⟩)
   replace H : (if 0 ≤ (ji6) then (if x6_1 < (shl .i64 6 (ji6)) then ((spec_l27Possible.f k1 l0_0 l1 x6_1).bind fun t479 => (if t479 = true then (if x5_1.length < 17592186044416 then (spec_l27Moves.l0 k1 l1 (x5_1 ++ [x6_1]) (wrap64 (x6_1 + 1)) l0_0) else (none)) else (spec_l27Moves.l0 k1 l1 x5_1 (wrap64 (x6_1 + 1)) l0_0))) else (some x5_1)) else (none)) = some r := by first | (rw [hji6] at H; exact H) | (simp only [hji6] at H ⊢; exact H)
   (by_cases c7 : 0 ≤ (ji6))
   ·(rw [if_pos c7] at H); (have c7b0 := eq_true c7); (have c7b1 : decide (0 ≤ (ji6)) = true := decide_eq_true c7); clear c7; (obtain ⟨ji8, hji8⟩ : ∃ j_ : Int, (shl .i64 6 (ji6)) = j_ := ⟨_, rfl⟩)
    replace H : (if x6_1 < (ji8) then ((spec_l27Possible.f k1 l0_0 l1 x6_1).bind fun t479 => (if t479 = true then (if x5_1.length < 17592186044416 then (spec_l27Moves.l0 k1 l1 (x5_1 ++ [x6_1]) (wrap64 (x6_1 + 1)) l0_0) else (none)) else (spec_l27Moves.l0 k1 l1 x5_1 (wrap64 (x6_1 + 1)) l0_0))) else (some x5_1)) = some r := by first | (rw [hji8] at H; exact H) | (simp only [hji8] at H ⊢; exact H)
    (have hji8_ : (IntKind.i64.wrap (6 * 2 ^ min (ji6).toNat 64)) = ji8 := hji8); (have hji8z : (ji6) ≤ 64 → (IntKind.i64.wrap (6 * 2 ^ (ji6).toNat)) = ji8 := shl_small hji8); (have hji8y : (wrap64 (6 * 2 ^ min (ji6).toNat 64)) = ji8 := (i64_w _).symm.trans hji8_)
    have hji8x : (ji6) ≤ 64 → (wrap64 (6 * 2 ^ (ji6).toNat)) = ji8 := fun h_ => (i64_w _).symm.trans (hji8z h_)
    (by_cases c9 : x6_1 < (ji8))
    ·(rw [if_pos c9] at H); (have c9b0 : decide (x6_1 < (ji8)) = true := decide_eq_true c9); clear c9; (replace H := Option.bind_eq_some_iff.mp H); (obtain ⟨t479, A100, H⟩ := H); (try dsimp only at H); (have A10 := A0_ A100); clear A100; (have H0_ := A0_ H); clear H; (have hcz11_0 : wr.cell? ⟨gb475, 0, none⟩ = some (.slice A0_0 l0_0.length c0_0) := (blk_cell BK475.out 0).trans rfl); (have hfz11_0 := blk_frozen BK475.out 0); (go_wp2_with (first | ((with_reducible refine gate_callee (f := 58) rfl ?_); refine gl_ (some 20) Try.func58 #[.agg #[.slice A0_0 l0_0.length c0_0], .slice A1 l1.length c1, .int .i64 x6_1] ?_; (with_reducible refine (spec_l27Possible.calls k1 _ _ l0_0 _ _ l1 x6_1 t479 _ ?side1 ?side2 ?side3 ?side4 A10.out).mono ?_); (case side1 => exact kc_ (Kd.C_below HR0_0.out HB.out)); (case side2 => exact HC0_0.out); (case side3 => exact kc_ (Kd.C_below HR1.out HB.out)); (case side4 => exact HC1.out); rintro e w12 ⟨rfl, hb⟩; refine ⟨_, rfl, ?_⟩; have n0_ := A0_ (Kd.R_below (by (with_reducible repeat (first | apply Ra_ | apply Rn_ | apply Rd_)); exact HO_5.out) hb); have n1_ := A0_ (blk_below (g := gb475) (o := .cells #[.slice A0_0 l0_0.length c0_0] 26 (0, 0)) (bk_ BK475) hb); have n2_ := A0_ (below_step bx_ hb); clear HO_5; clear BK475; clear HB; have HO_5 := n0_; have BK475 := n1_; have HB := n2_; clear n0_ n1_ n2_; (try clear hb); (try clear hb2); (try clear hk); (try clear hi); refine Stop0.out ?_))); (refine Stop0.mk ?_); (have H := H0_.out); clear H0_; (by_cases c13 : t479 = true)
     ·subst c13; (have H1 := H); (rw [if_pos rfl] at H1); clear H; (have H := H1); clear H1; (by_cases c14 : x5_1.length < 17592186044416)
      ·(rw [if_pos c14] at H); (have LMc14 := A0_ c14); clear c14; (obtain ⟨y480, hy480⟩ : ∃ y_ : List Int, y_ = (x5_1 ++ [x6_1]) := ⟨_, rfl⟩); (replace H : (spec_l27Moves.l0 k1 l1 y480 (wrap64 (x6_1 + 1)) l0_0) = some r := by first | (rw [hy480]; with_reducible exact H) | (have H2_ := (Option.bind_some _ _).symm.trans H; rw [hy480]; with_reducible exact H2_) | (have H2_ := (Option.bind_some _ _).symm.trans H; with_reducible exact H2_) | with_reducible exact H | (rw [hy480]; exact H) | exact H); (have Ny480 := A0_ hy480); clear hy480; (have H' := A0_ H); clear H
       go_wp2_with (first | ((with_reducible refine gate_builtin (b := .append) (xs := #[.tmp 21, .tmp 23]) rfl ?_); at_builtin; refine Kd.R_append (Kd.int .i64) (w0 := w) w.heap.size rfl (.tmp 21) (.tmp 23) 28 2 (.int .i64 0) 8 rfl Try.underlying28 info2 rfl (by decide) (by omega) u5 x5_1 x6_1 [.int .i64 x6_1] (fun _ => True) (fun _ => False) rfl rfl ?aP (fun _ hk => hk.elim) ?aF ?aO ?aB ?aS ?aL ?_; (case aP => exact rfl); (case aB => exact bx_); (case aF => exact (fun _ _ => trivial)); (case aO => exact (by (with_reducible repeat (first | apply Ra_ | apply Rn_ | apply Rd_)); exact HO_5.out)); (case aS => exact (below_size bx_)); (case aL => have := LMc14.out; omega); intro v481 w15 ho hb hg hat; rw [← Ny480.out] at ho; have n0_ := A0_ (blk_grown (g := gb475) (o := .cells #[.slice A0_0 l0_0.length c0_0] 26 (0, 0)) (bk_ BK475) hg (Kd.R_ne HO_5.out BK475.out (by decide))); have n1_ := A0_ (hb); have n2_ := A0_ (ho); clear BK475; clear HB; clear HO_5; have BK475 := n0_; have HB := n1_; have HO482 := n2_; clear n0_ n1_ n2_; clear ho hb hg hat))
       (go_roundg k1)
       case measure => have := HK1.out; omega
       case rel => exact ⟨(y480), (wrap64 (x6_1 + 1)), (by first | rfl | (simp; done) | (simp [*]; done)), H', ⟨by have := HK1.out; omega⟩, ⟨by (with_reducible repeat (first | apply Ra_ | apply Rn_ | apply Rd_)); exact HO482.out⟩, ⟨by exact bk_ BK475⟩, ⟨by repeat (first | (with_reducible first | exact HB.out | apply ba_ | apply bn_ | apply bd_ | refine below_set ?_ GE475.out) | exact HB.out)⟩⟩
      ·(rw [if_neg c14] at H); (exact absurd H (by simp))
     ·(replace c13 := Bool.eq_false_iff.mpr c13); subst c13; (have H1 : (spec_l27Moves.l0 k1 l1 x5_1 (wrap64 (x6_1 + 1)) l0_0) = some r := by rw [if_neg (show ¬ (false = true) by decide)] at H; exact H); clear H; (have H := H1); clear H1; (have H' := A0_ H); clear H; go_wp2; (go_roundg k1)
      case measure => have := HK1.out; omega
      case rel => exact ⟨(x5_1), (wrap64 (x6_1 + 1)), (by first | rfl | (simp; done) | (simp [*]; done)), H', ⟨by have := HK1.out; omega⟩, ⟨by (with_reducible repeat (first | apply Ra_ | apply Rn_ | apply Rd_)); exact HO_5.out⟩, ⟨by exact bk_ BK475⟩, ⟨by repeat (first | (with_reducible first | exact HB.out | apply ba_ | apply bn_ | apply bd_ | refine below_set ?_ GE475.out) | exact HB.out)⟩⟩
    ·(rw [if_neg c9] at H); (have c9b0 : decide (x6_1 < (ji8)) = false := decide_eq_false c9); clear c9; (obtain rfl := Option.some.inj H); (have hcz16_0 : wr.cell? ⟨gb475, 0, none⟩ = some (.slice A0_0 l0_0.length c0_0) := (blk_cell BK475.out 0).trans rfl); (have hfz16_0 := blk_frozen BK475.out 0); go_wp2; go_ret; (exact ⟨_, by first | rfl | (simp [errW_none, errW_some] <;> rfl) | (simp only [← hji6, ← hji8]; first | rfl | (simp [errW_none, errW_some] <;> rfl)) | (simp [*, errW_none, errW_some] <;> rfl), by (with_reducible repeat (first | apply Ra_ | apply Rn_ | apply Rd_)); exact HO_5.out, bx_⟩)
   ·(rw [if_neg c7] at H); (exact absurd H (by simp))
end
section
attribute [local go_sem] max2_int min2_int max_two min_two max_three min_three max_four min_four
def spec_l28Near.l0 : Nat → List (S94) → Int → Option (Bool)
  | 0, _, _ => none
  | k + 1, x0, x3 => if x3 < (x0.length : Int) then (if 0 ≤ x3 then ((spec_l01In.f ((rd_T94 x0 x3).f0) (-3) 3).bind fun t485 => (if t485 = true then ((spec_l01In.f ((rd_T94 x0 x3).f1) (-3) 3).bind fun t486 => (if t486 = true then ((spec_l01In.f ((rd_T94 x0 x3).f2) (-3) 3).bind fun t487 => (if t487 = true then (spec_l28Near.l0 k x0 (wrap64 (x3 + 1))) else (some false))) else (some false))) else (some false))) else (none)) else (some true)
def spec_l28Near.f (k : Nat) (l0 : List (S94)) : Option (Bool) := spec_l28Near.l0 k l0 0
set_option maxHeartbeats 8000000 in
set_option maxRecDepth 100000 in
theorem spec_l28Near.calls (k : Nat) (A0 : Option Addr) (c0 : Nat) (l0 : List (S94)) (r : Bool) (w : World) (hr0 : Kd.C k94 w A0 l0.length l0) (hc0 : l0.length ≤ c0) (h : spec_l28Near.f k l0 = some r) :
    Calls Try.prog 111 #[.slice A0 l0.length c0] w fun e w' => e = .returned (.bool r) ∧ Below w.heap.size w w' := by
 (have hu94 := Try.underlying94); (have HR0 := A0_ hr0); (have HC0 := A0_ hc0); clear hr0 hc0; (have HB := A0_ (Below.refl w.heap.size w)); (have H : (spec_l28Near.l0 k l0 0) = some r := h); clear h; (have H' := A0_ H); clear H; (go_enter Try.func111, Try.ntmps111); go_wp2
 go_loopg [3] k (fun kq v3 w' => ∃ (x3_1 : Int), v3 = .int .i64 x3_1 ∧ Aside0 (spec_l28Near.l0 kq l0 x3_1 = some r) ∧ Aside0 (kq ≤ k) ∧ Aside0 (Below w.heap.size w w'))
 case atStart => exact ⟨(0), (by first | rfl | (simp; done) | (simp [*]; done)), H', ⟨Nat.le_refl _⟩, ⟨by repeat (first | (with_reducible first | exact HB.out | apply ba_ | apply bn_ | apply bd_) | exact HB.out)⟩⟩
 case round =>
  clear H'; (try clear c1); (obtain ⟨x3_1, rfl, HA, HK1, HB⟩ := hrel)
  cases gk with
  | zero => exact absurd HA.out (by simp [spec_l28Near.l0])
  | succ k1 =>
   (have H := HA.out); clear HA; (simp only [spec_l28Near.l0] at H); (by_cases c2 : x3_1 < (l0.length : Int))
   ·(rw [if_pos c2] at H); (have c2b0 : decide (x3_1 < (l0.length : Int)) = true := decide_eq_true c2); clear c2; (by_cases c3 : 0 ≤ x3_1)
    ·(rw [if_pos c3] at H); (have c3b0 : decide (0 ≤ x3_1) = true := decide_eq_true c3); clear c3; (replace H := Option.bind_eq_some_iff.mp H); (obtain ⟨t485, A40, H⟩ := H); (try dsimp only at H); (have A4 := A0_ A40); clear A40; (have H0_ := A0_ H); clear H; (have p483 : 0 ≤ (x3_1 : Int) := of_decide_eq_true as_); (have q483 : x3_1 < (l0.length : Int) := of_decide_eq_true as_); (obtain ⟨ad483, e483, hx483_0, hx483_1, hx483_2⟩ := at_T94 HR0.out x3_1 p483 q483); (cases e483); (replace hx483_0 := (HB.out.cell (World.block_lt_of_cell? w _ hx483_0)).trans hx483_0); (replace hx483_1 := (HB.out.cell (World.block_lt_of_cell? w _ hx483_1)).trans hx483_1); (replace hx483_2 := (HB.out.cell (World.block_lt_of_cell? w _ hx483_2)).trans hx483_2); (replace p483 := eq_true p483); (replace q483 := eq_true q483); (go_wp2_with (first | ((with_reducible refine gate_dst (N := 4) rfl ?_); refine be_ (N := 4) (cs := #[.int .i64 0, .int .i64 0, .int .i64 0]) (t := 94) ?_; intro gb484 hg w5 hbox hb; have n0_ := A0_ (below_step bw_ hb); have n1_ := A0_ (hbox); have n2_ := A0_ ((by rw [hg]; exact (below_size bw_) : w.heap.size ≤ gb484)); have n3_ := A0_ ((by rw [hg]; exact (below_size bw_) : w.heap.size ≤ gb484)); clear HB; have HB := n0_; have BK484 := n1_; have GW484 := n2_; have GE484 := n3_; clear n0_ n1_ n2_ n3_; clear hb hbox hg; have hcz6_0 : w5.cell? ⟨gb484, 0, none⟩ = some (.int .i64 0) := (blk_cell BK484.out 0).trans rfl; have hcz6_1 : w5.cell? ⟨gb484, 1, none⟩ = some (.int .i64 0) := (blk_cell BK484.out 1).trans rfl; have hcz6_2 : w5.cell? ⟨gb484, 2, none⟩ = some (.int .i64 0) := (blk_cell BK484.out 2).trans rfl; have hfz6_0 := blk_frozen BK484.out 0; have hfz6_1 := blk_frozen BK484.out 1; have hfz6_2 := blk_frozen BK484.out 2) | ((with_reducible refine gate_callee (f := 64) rfl ?_); refine gl_ (some 17) Try.func64 #[.int .i64 ((rd_T94 l0 x3_1).f0), .int .i64 (-3), .int .i64 3] ?_; (with_reducible refine (spec_l01In.calls ((rd_T94 l0 x3_1).f0) (-3) 3 t485 _ A4.out).mono ?_); rintro e w' ⟨rfl, ⟨nd, rfl⟩⟩; refine ⟨_, rfl, ?_⟩; refine Stop0.out ?_))); (refine Stop0.mk ?_); (have H := H0_.out); clear H0_; (by_cases c7 : t485 = true)
     ·subst c7; (have H1 := H); (rw [if_pos rfl] at H1); clear H; (have H := H1); clear H1; (replace H := Option.bind_eq_some_iff.mp H); (obtain ⟨t486, A80, H⟩ := H); (try dsimp only at H); (have A8 := A0_ A80); clear A80; (have H0_ := A0_ H); clear H; (have hcz9_0 : w5.cell? ⟨gb484, 0, none⟩ = some (.int .i64 0) := (blk_cell BK484.out 0).trans rfl); (have hcz9_1 : w5.cell? ⟨gb484, 1, none⟩ = some (.int .i64 0) := (blk_cell BK484.out 1).trans rfl); (have hcz9_2 : w5.cell? ⟨gb484, 2, none⟩ = some (.int .i64 0) := (blk_cell BK484.out 2).trans rfl); (have hfz9_0 := blk_frozen BK484.out 0); (have hfz9_1 := blk_frozen BK484.out 1); (have hfz9_2 := blk_frozen BK484.out 2); (go_wp2_with (first | (go_at_call 64; (with_reducible refine (spec_l01In.calls ((rd_T94 l0 x3_1).f1) (-3) 3 t486 _ A8.out).mono ?_); rintro e w' ⟨rfl, ⟨nd, rfl⟩⟩; refine Stop0.out ?_))); (refine Stop0.mk ?_); (have H := H0_.out); clear H0_; (by_cases c10 : t486 = true)
      ·subst c10; (have H1 := H); (rw [if_pos rfl] at H1); clear H; (have H := H1); clear H1; (replace H := Option.bind_eq_some_iff.mp H); (obtain ⟨t487, A110, H⟩ := H); (try dsimp only at H); (have A11 := A0_ A110); clear A110; (have H0_ := A0_ H); clear H; (have hcz12_0 : w5.cell? ⟨gb484, 0, none⟩ = some (.int .i64 0) := (blk_cell BK484.out 0).trans rfl); (have hcz12_1 : w5.cell? ⟨gb484, 1, none⟩ = some (.int .i64 0) := (blk_cell BK484.out 1).trans rfl); (have hcz12_2 : w5.cell? ⟨gb484, 2, none⟩ = some (.int .i64 0) := (blk_cell BK484.out 2).trans rfl); (have hfz12_0 := blk_frozen BK484.out 0); (have hfz12_1 := blk_frozen BK484.out 1); (have hfz12_2 := blk_frozen BK484.out 2); (go_wp2_with (first | (go_at_call 64; (with_reducible refine (spec_l01In.calls ((rd_T94 l0 x3_1).f2) (-3) 3 t487 _ A11.out).mono ?_); rintro e w' ⟨rfl, ⟨nd, rfl⟩⟩; refine Stop0.out ?_))); (refine Stop0.mk ?_); (have H := H0_.out); clear H0_; (by_cases c13 : t487 = true)
       ·subst c13; (have H1 := H); (rw [if_pos rfl] at H1); clear H; (have H := H1); clear H1; (have H' := A0_ H); clear H; go_wp2; (go_roundg k1)
        case measure => have := HK1.out; omega
        case rel => exact ⟨(wrap64 (x3_1 + 1)), (by first | rfl | (simp; done) | (simp [*]; done)), H', ⟨by have := HK1.out; omega⟩, ⟨by repeat (first | (with_reducible first | exact HB.out | apply ba_ | apply bn_ | apply bd_ | refine below_set ?_ GE484.out) | exact HB.out)⟩⟩
       ·(replace c13 := Bool.eq_false_iff.mpr c13); subst c13; (have H1 : (some false) = some r := by rw [if_neg (show ¬ (false = true) by decide)] at H; exact H); clear H; (have H := H1); clear H1; (obtain rfl := Option.some.inj H); go_wp2; go_ret; (exact ⟨er_, bx_⟩)
      ·(replace c10 := Bool.eq_false_iff.mpr c10); subst c10; (have H1 : (some false) = some r := by rw [if_neg (show ¬ (false = true) by decide)] at H; exact H); clear H; (have H := H1); clear H1; (obtain rfl := Option.some.inj H); go_wp2; go_ret; (exact ⟨er_, bx_⟩)
     ·(replace c7 := Bool.eq_false_iff.mpr c7); subst c7; (have H1 : (some false) = some r := by rw [if_neg (show ¬ (false = true) by decide)] at H; exact H); clear H; (have H := H1); clear H1; (obtain rfl := Option.some.inj H); go_wp2; go_ret; (exact ⟨er_, bx_⟩)
    ·(rw [if_neg c3] at H); (exact absurd H (by simp))
   ·(rw [if_neg c2] at H); (have c2b0 : decide (x3_1 < (l0.length : Int)) = false := decide_eq_false c2); clear c2; (obtain rfl := Option.some.inj H); go_wp2; go_ret; (exact ⟨er_, bx_⟩)
end
section
attribute [local go_sem] max2_int min2_int max_two min_two max_three min_three max_four min_four
def spec_l01Own.f (l0 : List Int) : Option (List Int) := (some (([] : List Int) : List Int)).bind fun y497 => (if y497.length + l0.length < 17592186044416 then (some (y497 ++ l0)) else (none))
set_option maxHeartbeats 8000000 in
set_option maxRecDepth 100000 in
theorem spec_l01Own.calls (A0 : Option Addr) (c0 : Nat) (l0 : List Int) (r : List Int) (w : World) (hr0 : Kd.C (Kd.int .i64) w A0 l0.length l0) (hc0 : l0.length ≤ c0) (h : spec_l01Own.f l0 = some r) :
    Calls Try.prog 113 #[.slice A0 l0.length c0] w fun e w' => ∃ v0_ : Value, e = .returned (v0_) ∧ Kd.R (Kd.int .i64) 2 w' w.heap.size (fun _ => True) v0_ r ∧ Below w.heap.size w w' := by
 (have HR0 := A0_ hr0); (have HC0 := A0_ hc0); clear hr0 hc0; (have HB := A0_ (Below.refl w.heap.size w))
 have H : ((some (([] : List Int) : List Int)).bind fun y497 => (if y497.length + l0.length < 17592186044416 then (some (y497 ++ l0)) else (none))) = some r := h
 clear h; (obtain ⟨y497, hy497⟩ : ∃ y_ : List Int, y_ = (([] : List Int)) := ⟨_, rfl⟩); (replace H : (if y497.length + l0.length < 17592186044416 then (some (y497 ++ l0)) else (none)) = some r := by first | (rw [hy497]; with_reducible exact H) | (have H2_ := (Option.bind_some _ _).symm.trans H; rw [hy497]; with_reducible exact H2_) | (have H2_ := (Option.bind_some _ _).symm.trans H; with_reducible exact H2_) | with_reducible exact H | (rw [hy497]; exact H) | exact H); (have Ny497 := A0_ hy497); clear hy497; (by_cases c2 : y497.length + l0.length < 17592186044416)
 ·(rw [if_pos c2] at H); (have LMc2 := A0_ c2); clear c2; (obtain ⟨y500, hy500⟩ : ∃ y_ : List Int, y_ = (y497 ++ l0) := ⟨_, rfl⟩); (replace H : (some y500) = some r := by first | (rw [hy500]; with_reducible exact H) | (have H2_ := (Option.bind_some _ _).symm.trans H; rw [hy500]; with_reducible exact H2_) | (have H2_ := (Option.bind_some _ _).symm.trans H; with_reducible exact H2_) | with_reducible exact H | (rw [hy500]; exact H) | exact H); (have Ny500 := A0_ hy500); clear hy500; (obtain rfl := Option.some.inj H); (go_enter Try.func113, Try.ntmps113)
  go_wp2_with (first | ((with_reducible refine gate_dst (N := 3) rfl ?_); refine Kd.R_lit (Kd.int .i64) _ 2 ?hg (N := 3) ?hd (xs := ([] : List Int)) (inner := []) (ok := fun _ => True) (okp := fun _ => True) ?hr ?hp (fun _ hk => hk) trivial (Below.refl _ _) (Nat.le_refl _) (by simp) ?_; (case hd => rfl); (case hg => rfl); (case hr => first | (go_simp; done) | (go_simp; rfl)); (case hp => exact (Reps.none _ _)); intro v498 w3 ho4 hb hg_ hnew_; clear hg_ hnew_; (first | rw [← Ny497.out] at ho4 | (simp only [Int.reduceToNat] at ho4; rw [← Ny497.out] at ho4)); have n0_ := A0_ (Kd.R_lower ho4 (below_size bw_)); have n1_ := A0_ (below_step bw_ hb); clear HB; have HO499 := n0_; have HB := n1_; clear n0_ n1_; clear hb ho4) | ((with_reducible refine gate_builtin (b := .append) (xs := #[.tmp 3, .tmp 4]) rfl ?_); at_builtin; refine Kd.R_append_rows (Kd.int .i64) (w0 := w) w.heap.size rfl (.tmp 3) (.tmp 4) 28 2 (.int .i64 0) 8 rfl Try.underlying28 info2 rfl (by decide) (by omega) v498 y497 l0 _ _ _ (fun _ => True) (fun _ => False) rfl rfl ?aO ?aR (fun _ _ h => h) (fun _ h => h.elim) ?aF ?aB ?aS ?aL ?_; (case aR => exact kc_ (Kd.C_below HR0.out HB.out)); (case aB => exact bw_); (case aF => exact (fun _ _ => trivial)); (case aO => exact (by (with_reducible repeat (first | apply Ra_ | apply Rn_ | apply Rd_)); exact HO499.out)); (case aS => exact (below_size bw_)); (case aL => have := LMc2.out; omega); intro v501 w5 ho hb hg hat; rw [← Ny500.out] at ho; have n0_ := A0_ (hb); have n1_ := A0_ (ho); clear HB; clear HO499; have HB := n0_; have HO502 := n1_; clear n0_ n1_; clear ho hb hg hat))
  go_ret; (exact ⟨_, by first | rfl | (simp [errW_none, errW_some] <;> rfl) | (simp [*, errW_none, errW_some] <;> rfl), by (with_reducible repeat (first | apply Ra_ | apply Rn_ | apply Rd_)); exact HO502.out, bx_⟩)
 ·(rw [if_neg c2] at H); (exact absurd H (by simp))
end
def visitW (o : List Cb) (wy : List Int) (S : List (List Cb × List Int)) (m : Int) : Option (List (List Cb × List Int)) :=
 if (movedP o m).any (fun c => !inCb c (-3) 3) = true then some S
 else if (S.map Prod.fst).contains (movedP o m) = true then some S
 else if S.length = 1200 then none else some (S ++ [(movedP o m, wy ++ [m])])
abbrev ndW (PS : List (Sl × List Cb)) (WS : List (Sl × List Int)) : List (List Cb × List Int) := (PS.map Prod.snd).zip (WS.map Prod.snd)
theorem ndW_fst {PS : List (Sl × List Cb)} {WS : List (Sl × List Int)} (h : PS.length = WS.length) : (ndW PS WS).map Prod.fst = PS.map Prod.snd := List.map_fst_zip (by simp [h])
theorem ndW_len {PS : List (Sl × List Cb)} {WS : List (Sl × List Int)} (h : PS.length = WS.length) : (ndW PS WS).length = PS.length := by simp [ndW, h]
theorem ndW_add {PS : List (Sl × List Cb)} {WS : List (Sl × List Int)} (h : PS.length = WS.length) (p : Sl × List Cb) (q : Sl × List Int) : ndW (PS ++ [p]) (WS ++ [q]) = ndW PS WS ++ [(p.2, q.2)] := by
 unfold ndW
 rw [List.map_append, List.map_append, List.zip_append (by simp [h])]
 rfl
abbrev wayR (base : Nat) (Aw : Option Addr) (cw : Nat) (WS : List (Sl × List Int)) : Res := Res.row kSl 28 base (.slice Aw WS.length cw) (WS.map Prod.fst)
abbrev srRes (base gs : Nat) (Ao : Option Addr) (co : Nat) (Aw : Option Addr) (cw : Nat) (full : Bool) (PS : List (Sl × List Cb)) (WS : List (Sl × List Int)) : List Res :=
 [srBlk gs Ao PS.length co Aw WS.length cw full, posR base Ao co PS, Res.poolG kC 94 base PS, wayR base Aw cw WS, Res.poolG kI 2 base WS]
structure SrOk (n : Nat) (PS : List (Sl × List Cb)) (WS : List (Sl × List Int)) : Prop where
 len : PS.length = WS.length
 top : PS.length ≤ 1200
 pos : ∀ p ∈ PS, p.2.length = n
 way : ∀ (j : Nat) (p : Sl × List Int), WS[j]? = some p → p.2.length ≤ j
 near : ∀ p ∈ PS, p.2.any (fun c => !inCb c (-3) 3) = false
def exPost (w0 : World) (gs n : Nat) (rest : List Res) (R : Option (List (List Cb × List Int))) (w' : World) : Prop :=
 ∃ Ao co Aw cw PS WS, SrOk n PS WS ∧ (match R with | none => Sp w0 (srRes w0.heap.size gs Ao co Aw cw true PS WS ++ rest) w' | some S' => ndW PS WS = S' ∧ Sp w0 (srRes w0.heap.size gs Ao co Aw cw false PS WS ++ rest) w')
structure SpecOk (n : Nat) : Prop where
 near : ∀ nx : List Cb, nx.length = n → ∃ K, spec_l28Near.f K nx = some (!nx.any (fun c => !inCb c (-3) 3))
 same : ∀ p q : List Cb, p.length = n → q.length = n → ∃ K, spec_l28Same.f K p q = some (decide (p = q))
 after : ∀ (o : List Cb) (m : Int), o.length = n → isMv n m = true → ∃ K, spec_l27After.f K o m = some (movedP o m)
def expF.T1 : Bool × List (List Nat × List Nat) := (true, [([], []), ([], []), ([1], [1]), ([2], [2]), ([3], [3]), ([], []), ([4, 5], [4, 5]), ([6], [6]), ([0, 7], [0, 7]), ([8, 8, 0, 1, 2, 3, 4, 5, 6, 7, 8], [8])])
def expF.B1 : List Nat := [0, 0, 2, 6, 14, 0, 62, 126, 255, 511]
theorem expF.tab1 : rtab .any (opsOf Try.f87 1) = expF.T1 := by kernel_rfl
theorem expF.bits1 : waitsOk expF.T1.2 expF.B1 = true := by kernel_rfl
def expF.T5 : Bool × List (List Nat × List Nat) := (true, [([], []), ([0], [0]), ([1], [1]), ([2], [2]), ([], []), ([3, 4], [3, 4]), ([5], [5]), ([], []), ([], []), ([7, 8], [7, 8]), ([9], [9]), ([6, 10], [6, 10]), ([11, 11, 0, 1, 2, 3, 4, 5, 6, 7, 8, 9, 10, 11], [11])])
def expF.B5 : List Nat := [0, 1, 3, 7, 0, 31, 63, 0, 0, 384, 896, 2047, 4095]
theorem expF.tab5 : rtab .any (opsOf Try.f87 5) = expF.T5 := by kernel_rfl
theorem expF.bits5 : waitsOk expF.T5.2 expF.B5 = true := by kernel_rfl
def expF.T10 : Bool × List (List Nat × List Nat) := (true, [([], []), ([], []), ([1], [1]), ([2], [2]), ([3], [3]), ([], []), ([5], [5]), ([6], [6]), ([7], [7]), ([], []), ([8, 9], [8, 9]), ([10], [10]), ([11], [11]), ([], []), ([], []), ([13, 14], [13, 14]), ([15], [15]), ([16], [16]), ([12, 17, 12], [12, 17]), ([18], [18]), ([4, 19, 18], [4, 19]), ([0, 0, 1, 2, 3, 4, 5, 6, 7, 8, 9, 10, 11, 12, 13, 14, 15, 16, 17, 18, 19, 20], [0]), ([21, 0, 1, 2, 3, 4, 5, 6, 7, 8, 9, 10, 11, 12, 13, 14, 15, 16, 17, 18, 19, 20], [21]), ([22, 20, 20, 0, 1, 2, 3, 4, 5, 6, 7, 8, 9, 10, 11, 12, 13, 14, 15, 16, 17, 18, 19, 20], [20, 22])])
def expF.B10 : List Nat := [0, 0, 2, 6, 14, 0, 32, 96, 224, 0, 992, 2016, 4064, 0, 0, 24576, 57344, 122880, 262112, 524256, 1048574, 2097151, 4194303, 8388607]
theorem expF.tab10 : rtab .any (opsOf Try.f87 10) = expF.T10 := by kernel_rfl
theorem expF.bits10 : waitsOk expF.T10.2 expF.B10 = true := by kernel_rfl
set_option maxHeartbeats 8000000 in
set_option maxRecDepth 100000 in
theorem expand_calls (w0 : World) (Ap : Option Addr) (cp gs : Nat) (parts : List (List Cb)) (hF : FrOk w0 Ap parts) (hcp : parts.length ≤ cp) (hn : 1 ≤ parts.length ∧ parts.length ≤ 4) (hSO : SpecOk parts.length) (Ao : Option Addr) (co : Nat) (Aw : Option Addr) (cw : Nat) (PS : List (Sl × List Cb)) (WS : List (Sl × List Int)) (hok : SrOk parts.length PS WS) (k : Nat) (p0 : Sl × List Cb) (hk : PS[k]? = some p0) (hmv : ∃ K, spec_l27Moves.f K parts p0.2 = some (movesP parts p0.2)) (wy : List Int) (hkw : ∃ q, WS[k]? = some q ∧ q.2 = wy) (rest : List Res) (w : World) (hs : Sp w0 (srRes w0.heap.size gs Ao co Aw cw false PS WS ++ rest) w) :
  Calls Try.prog 87 #[.agg #[.slice Ap parts.length cp], .pointer (some ⟨gs, 0, none⟩), .int .i64 k] w fun e w' => e = .returned (.tuple #[]) ∧ exPost w0 gs parts.length rest ((movesP parts p0.2).foldlM (visitW p0.2 wy) (ndW PS WS)) w' := by
 have hu32 := Try.underlying26
 have hmem : p0 ∈ PS := List.mem_of_getElem? hk
 have hkl : k < PS.length := (List.getElem?_eq_some_iff.1 hk).1
 have hol := hok.pos p0 hmem
 obtain ⟨g1, g2, g3⟩ := Sp.poolGC hs (i := 2) rfl hmem
 obtain ⟨⟨A0, n0, c0⟩, o⟩ := p0
 dsimp only at g1 g2 g3 hol hmv ⊢
 subst g1
 obtain ⟨KM, hKM⟩ := hmv
 have HKM := A0_ hKM
 have HOL := A0_ hol
 have HOC := A0_ g2
 have HF := A0_ hF
 have HCP := A0_ hcp
 have HN := A0_ hn
 have HSO := A0_ hSO
 have HOK := A0_ hok
 have HPK := A0_ hk
 have HKW := A0_ hkw
 have HS := A0_ hs
 have HMM := A0_ (fun m (hm : m ∈ movesP parts o) => (moves_mem hm).1)
 have HML := A0_ (show (movesP parts o).length ≤ 1536 by
  have h1 := movesK_len parts o (6 * 2 ^ parts.length)
  have h2 := pow_le8 parts.length hF.len
  have h3 : movesP parts o = movesK parts o (6 * 2 ^ parts.length) := rfl
  rw [← h3] at h1
  generalize 2 ^ parts.length = N2 at h1 h2
  omega)
 generalize movesP parts o = ms at HKM HMM HML ⊢
 obtain ⟨S0, hS0⟩ : ∃ S0, S0 = ndW PS WS := ⟨_, rfl⟩
 rw [← hS0]
 have HS0 := A0_ hS0
 have HMEM := A0_ hmem
 have hkl2 := hkl
 clear hs hF hcp hn hSO hok hmem hol g2 g3 hKM hS0 hkw
 have HKL := A0_ hkl
 go_enter Try.func87, Try.ntmps87
 go_wp2_with (first
  | ((with_reducible refine gate_dst (N := 3) rfl ?_); refine be_ (N := 3) (cs := #[.slice Ap parts.length cp]) (t := 26) ?_; intro ga hgb_ wb_ hcb_ hbb_; replace HS := A0_ (Sp.boxed HS.out hgb_ hcb_ hbb_); clear hgb_ hcb_ hbb_))
 have q0 : (0 ≤ (k : Int)) = True := eq_true (by omega)
 have q1 : ((k : Int) < (PS.length : Int)) = True := eq_true (by omega)
 obtain ⟨adp, e, hx⟩ := at_Sl (Sp.reads HS.out (i := 2) rfl).2.2 k (by rw [List.length_map]; exact hkl)
 subst e
 rw [show (PS.map Prod.fst).getD k (none, 0, 0) = (A0, o.length, c0) by rw [List.getD_eq_getElem?_getD, List.getElem?_map, hk]; rfl] at hx
 have HX := A0_ hx
 clear hk hkl hkl2 hx
 have HBD := A0_ (below_drew (Below.refl wb_.heap.size wb_))
 replace HS := A0_ (show Sp w0 ([Res.blk ga #[.slice Ap parts.length cp] 26, srBlk gs (some adp) PS.length co Aw WS.length cw false, posR w0.heap.size (some adp) co PS, Res.poolG kC 94 w0.heap.size PS, wayR w0.heap.size Aw cw WS, Res.poolG kI 2 w0.heap.size WS] ++ rest) wb_.drew from Sp.drew HS.out)
 refine start_ (n := 10) (S := fun w' => w'.cell? ⟨ga, 0, none⟩ = some (.slice Ap parts.length cp) ∧ w'.cell? ⟨gs, 0, none⟩ = some (.slice (some adp) PS.length co) ∧ w'.cell? (adp.add k) = some (.slice A0 o.length c0)) (ds := []) #[false, false, false, false, false, false, false, false, false, false] (by kernel_rfl) rfl rfl (⟨(cl_ HS 0 0 rfl).trans rfl, (cl_ HS 1 0 rfl).trans rfl, pw_cell_below HBD.out HX.out⟩) (fun hHeld => ?_)
 refine with_tabW expF.tab1 expF.bits1 (fun HT_ HW_ => ?_)
 generalize wb_.drew = wD at HS HBD hHeld ⊢
 refine tk_ 0 (some 9) ?_
 refine on_ 1 (some 10) ?_
 refine on_ 2 (some 11) ?_
 refine on_ 3 (some 12) ?_
 refine tk_ 4 (some 13) ?_
 refine on_ 5 (some 14) ?_
 refine on_ 6 (some 15) ?_
 refine tk_ 7 (some 16) ?_
 refine o1_ 8 (some 17) (fun K hK => ?_)
 refine gs_ Try.func92 #[.agg #[.slice Ap parts.length cp], .slice A0 o.length c0] ?_
 refine (spec_l27Moves.calls KM Ap cp parts A0 c0 o ms _ (Kd.C_below HF.out.C HS.out.below) HCP.out (Sp.poolGC HS.out (i := 3) rfl HMEM.out).2.2 HOC.out HKM.out).mono ?_
 rintro e wm_ ⟨vm_, rfl, ho_, hb_⟩
 refine ⟨_, rfl, ?_⟩
 replace HS := A0_ (Sp.made' HS.out hb_ ho_)
 replace HBD := A0_ (below_step HBD.out hb_)
 obtain ⟨Am, cm, rfl⟩ := Kd.R_slice ho_
 clear ho_ hb_
 refine hK.out _ _ (⟨(cl_ HS 1 0 rfl).trans rfl, (cl_ HS 2 0 rfl).trans rfl, pw_cell_below HBD.out HX.out⟩) (fun hHeld => ?_)
 clear hK K
 refine nm_ (some 17) ?_
 refine on_ 9 (some 6) ?_
 refine dn_ ?_
 clear HX HBD
 go_wp2
 go_loopg [7] (ms.length + 1) (fun kq v7 w' => ∃ (j : Nat) (Ao : Option Addr) (co : Nat) (Aw : Option Addr) (cw : Nat) (PS : List (Sl × List Cb)) (WS : List (Sl × List Int)), v7 = .int .i64 (j : Int) ∧ Aside0 (j ≤ ms.length ∧ kq + j = ms.length + 1 ∧ (ms.take j).foldlM (visitW o wy) S0 = some (ndW PS WS) ∧ SrOk parts.length PS WS ∧ PS[k]? = some ((A0, o.length, c0), o) ∧ ∃ q, WS[k]? = some q ∧ q.2 = wy) ∧ Aside0 (Sp w0 ([Res.blk ga #[.slice Ap parts.length cp] 26, srBlk gs Ao PS.length co Aw WS.length cw false, posR w0.heap.size Ao co PS, Res.poolG kC 94 w0.heap.size PS, wayR w0.heap.size Aw cw WS, Res.poolG kI 2 w0.heap.size WS, Res.row kI 2 w0.heap.size (.slice Am ms.length cm) ms] ++ rest) w'))
 case atStart => exact ⟨0, some adp, co, Aw, cw, PS, WS, rfl, ⟨by omega, by omega, by rw [HS0.out]; rfl, HOK.out, HPK.out, HKW.out⟩, ⟨Sp.arr (pre := [Res.row kI 2 w0.heap.size (.slice Am ms.length cm) ms, Res.blk ga #[.slice Ap parts.length cp] 26, srBlk gs (some adp) PS.length co Aw WS.length cw false, posR w0.heap.size (some adp) co PS, Res.poolG kC 94 w0.heap.size PS, wayR w0.heap.size Aw cw WS, Res.poolG kI 2 w0.heap.size WS]) (rest := rest) [1, 2, 3, 4, 5, 6, 0] HS.out rfl rfl⟩⟩
 case round =>
  clear HS HOK HPK HKW HMEM HS0 HKL q0 q1
  obtain ⟨j, Ao, co, Aw, cw, PS, WS, rfl, HX, HS⟩ := hrel
  obtain ⟨k1, rfl⟩ : ∃ k1, gk = k1 + 1 := ⟨gk - 1, by have := HX.out; omega⟩
  have hs2 : wr.cell? ⟨gs, 2, none⟩ = some (.bool false) := (cl_ HS 1 2 rfl).trans rfl
  by_cases cj : j < ms.length
  ·have cj0 : decide (j < ms.length) = true := decide_eq_true cj
   have q0 : (0 ≤ (j : Int)) = True := eq_true (by omega)
   have q1 : ((j : Int) < (ms.length : Int)) = True := eq_true (by omega)
   obtain ⟨adm, e, hxm⟩ := Kd.at_int (Sp.reads HS.out (i := 6) rfl).2.2 (j : Int) (by omega) (by omega)
   subst e
   rw [rd_nat ms j cj, Int.toNat_natCast] at hxm
   have hkl : k < PS.length := (List.getElem?_eq_some_iff.1 HX.out.2.2.2.2.1).1
   have q2 : (0 ≤ (k : Int)) = True := eq_true (by omega)
   have q3 : ((k : Int) < (PS.length : Int)) = True := eq_true (by omega)
   have q4 : ((k : Int) < (WS.length : Int)) = True := eq_true (by have := HX.out.2.2.2.1.len; omega)
   obtain ⟨adp, e, hx⟩ := at_Sl (Sp.reads HS.out (i := 2) rfl).2.2 k (by rw [List.length_map]; exact hkl)
   subst e
   rw [show (PS.map Prod.fst).getD k (none, 0, 0) = (A0, o.length, c0) by rw [List.getD_eq_getElem?_getD, List.getElem?_map, HX.out.2.2.2.2.1]; rfl] at hx
   have HMEM := A0_ (List.mem_of_getElem? HX.out.2.2.2.2.1)
   have HFN := A0_ (fold_next (visitW o wy) ms S0 _ j cj HX.out.2.2.1)
   have HFO := A0_ (fun (h : (ms.take (j + 1)).foldlM (visitW o wy) S0 = none) => fold_none (visitW o wy) ms S0 (j + 1) h)
   have hmv := HMM.out ms[j] (List.getElem_mem cj)
   have HWJ := A0_ (wrap_succ j (by have := HML.out; omega))
   obtain ⟨nx, hnx⟩ : ∃ nx, nx = movedP o ms[j] := ⟨_, rfl⟩
   obtain ⟨KA, hKA⟩ := HSO.out.after o ms[j] HOL.out hmv
   rw [← hnx] at hKA
   have HNL := A0_ (show nx.length = parts.length by rw [hnx, movedP_len]; exact HOL.out)
   have hlen := HX.out.2.2.2.1.len
   have HVI : visitW o wy (ndW PS WS) ms[j] = if nx.any (fun c => !inCb c (-3) 3) = true then some (ndW PS WS) else if (PS.map Prod.snd).contains nx = true then some (ndW PS WS) else if PS.length = 1200 then none else some (ndW PS WS ++ [(nx, wy ++ [ms[j]])]) := by unfold visitW; rw [← hnx, ndW_fst hlen, ndW_len hlen]
   rw [HVI] at HFN
   have HKA := A0_ hKA
   have HMJ := A0_ (show ms.getD j 0 = ms[j] by simp [List.getD_eq_getElem?_getD, cj])
   have HJL := A0_ cj
   generalize ms[j] = m at hxm HFN HKA hmv HVI hnx hKA HMJ
   have HX0 := A0_ hx
   have HXM := A0_ hxm
   obtain ⟨KN, hKN⟩ := HSO.out.near nx HNL.out
   have HSA := A0_ (fun p (hp : p ∈ PS) => HSO.out.same p.2 nx (HX.out.2.2.2.1.pos p hp) HNL.out)
   clear hx hnx hKA hmv HVI cj hkl hlen
   go_wp2
   have HBD := A0_ (below_drew (Below.refl wr.heap.size wr))
   have HS_ := A0_ (show Sp w0 ([Res.blk ga #[.slice Ap parts.length cp] 26, srBlk gs (some adp) PS.length co Aw WS.length cw false, posR w0.heap.size (some adp) co PS, Res.poolG kC 94 w0.heap.size PS, wayR w0.heap.size Aw cw WS, Res.poolG kI 2 w0.heap.size WS, Res.row kI 2 w0.heap.size (.slice (some adm) ms.length cm) ms] ++ rest) wr.drew from Sp.drew HS.out)
   clear HS hs2 hxm
   have HS := HS_
   clear HS_
   refine start_ (n := 13) (S := fun w' => w'.cell? ⟨ga, 0, none⟩ = some (.slice Ap parts.length cp) ∧ w'.cell? ⟨gs, 0, none⟩ = some (.slice (some adp) PS.length co) ∧ w'.cell? (adp.add k) = some (.slice A0 o.length c0) ∧ w'.cell? (adm.add j) = some (.int .i64 m)) (ds := []) #[false, false, false, false, false, false, false, false, false, false, false, false, false] (by kernel_rfl) rfl rfl (⟨(cl_ HS 0 0 rfl).trans rfl, (cl_ HS 1 0 rfl).trans rfl, pw_cell_below HBD.out HX0.out, pw_cell_below HBD.out HXM.out⟩) (fun hHeld => ?_)
   refine with_tabW expF.tab5 expF.bits5 (fun HT_ HW_ => ?_)
   generalize wr.drew = wD at HS HBD hHeld ⊢
   refine on_ 0 (some 31) ?_
   refine on_ 1 (some 32) ?_
   refine on_ 2 (some 33) ?_
   refine tk_ 3 (some 34) ?_
   refine on_ 4 (some 35) ?_
   refine on_ 5 (some 36) ?_
   refine tk_ 6 (some 37) ?_
   refine on_ 7 (some 38) ?_
   refine on_ 8 (some 39) ?_
   refine on_ 9 (some 40) ?_
   refine tk_ 10 (some 41) ?_
   refine o1_ 11 (some 42) (fun K hK => ?_)
   refine gs_ Try.func59 #[.slice A0 o.length c0, .int .i64 m] ?_
   refine (spec_l27After.calls KA A0 c0 o m nx _ (Sp.poolGC HS.out (i := 3) rfl HMEM.out).2.2 HOC.out HKA.out).mono ?_
   rintro e wd_ ⟨vd_, rfl, ho_, hb_⟩
   refine ⟨_, rfl, ?_⟩
   replace HS := A0_ (Sp.made' HS.out hb_ ho_)
   replace HBD := A0_ (below_step HBD.out hb_)
   obtain ⟨Ad, cd, rfl⟩ := Kd.R_slice ho_
   clear ho_ hb_
   refine hK.out _ _ (⟨(cl_ HS 1 0 rfl).trans rfl, (cl_ HS 2 0 rfl).trans rfl, pw_cell_below HBD.out HX0.out, pw_cell_below HBD.out HXM.out⟩) (fun hHeld => ?_)
   clear hK K
   refine nm_ (some 42) ?_
   refine on_ 12 (some 8) ?_
   refine dn_ ?_
   clear HBD HX0
   cases han : nx.any (fun c => !inCb c (-3) 3) with
   | true =>
    rw [han] at hKN
    rw [han, if_pos rfl] at HFN
    have HKN := A0_ (show spec_l28Near.f KN nx = some false from hKN)
    clear han hKN
    go_wp2_with (first
     | (go_at_call 111; refine (spec_l28Near.calls KN Ad cd nx false _ (Sp.reads HS.out (i := 0) rfl).2.2 (Sp.reads HS.out (i := 0) rfl).2.1 HKN.out).mono ?_; rintro e wn_ ⟨rfl, hb_⟩; replace HS := A0_ (Sp.far HS.out hb_); clear hb_))
    go_roundg k1
    case measure => omega
    case rel =>
     rw [HWJ.out]
     exact ⟨j + 1, some adp, co, Aw, cw, PS, WS, rfl, ⟨by have := of_decide_eq_true cj0; omega, by have := HX.out; omega, HFN.out, HX.out.2.2.2⟩, ⟨Sp.tail HS.out⟩⟩
   | false =>
    rw [han] at hKN
    rw [han, if_neg (by simp)] at HFN
    have HKN := A0_ (show spec_l28Near.f KN nx = some true from hKN)
    have HAN := A0_ han
    clear han hKN
    cases hct : (PS.map Prod.snd).contains nx with
    | true =>
     rw [hct, if_pos rfl] at HFN
     have HCT := A0_ hct
     clear hct
     go_wp2_with (first
      | (go_at_call 111; refine (spec_l28Near.calls KN Ad cd nx true _ (Sp.reads HS.out (i := 0) rfl).2.2 (Sp.reads HS.out (i := 0) rfl).2.1 HKN.out).mono ?_; rintro e wn_ ⟨rfl, hb_⟩; replace HS := A0_ (Sp.far HS.out hb_); clear hb_)
      | (go_at_call 112; replace HS := A0_ (Sp.arr (pre := [Res.row kC 94 w0.heap.size (.slice Ad nx.length cd) nx, Res.blk ga #[.slice Ap parts.length cp] 26, srBlk gs (some adp) PS.length co Aw WS.length cw false, posR w0.heap.size (some adp) co PS, Res.poolG kC 94 w0.heap.size PS, wayR w0.heap.size Aw cw WS, Res.poolG kI 2 w0.heap.size WS, Res.row kI 2 w0.heap.size (.slice (some adm) ms.length cm) ms]) (pre' := [srBlk gs (some adp) PS.length co Aw WS.length cw false, posR w0.heap.size (some adp) co PS, Res.poolG kC 94 w0.heap.size PS, Res.row kC 94 w0.heap.size (.slice Ad nx.length cd) nx, Res.blk ga #[.slice Ap parts.length cp] 26, wayR w0.heap.size Aw cw WS, Res.poolG kI 2 w0.heap.size WS, Res.row kI 2 w0.heap.size (.slice (some adm) ms.length cm) ms]) (rest := rest) [2, 3, 4, 0, 1, 5, 6, 7] HS.out rfl rfl); refine (known_calls w0 gs (some adp) Aw co WS.length cw false PS HX.out.2.2.2.1.top (Res.row kC 94 w0.heap.size (.slice Ad nx.length cd) nx) Ad cd nx Rds.row (Sp.reads HS.out (i := 3) rfl).2.1 HSA.out ([Res.blk ga #[.slice Ap parts.length cp] 26, wayR w0.heap.size Aw cw WS, Res.poolG kI 2 w0.heap.size WS, Res.row kI 2 w0.heap.size (.slice (some adm) ms.length cm) ms] ++ rest) _ HS.out).mono ?_; rw [HCT.out]; rintro e wk_ ⟨rfl, hs_⟩; replace HS := A0_ (hs_); clear hs_))
     go_roundg k1
     case measure => omega
     case rel =>
      rw [HWJ.out]
      exact ⟨j + 1, some adp, co, Aw, cw, PS, WS, rfl, ⟨by have := of_decide_eq_true cj0; omega, by have := HX.out; omega, HFN.out, HX.out.2.2.2⟩, ⟨Sp.arr (pre := [srBlk gs (some adp) PS.length co Aw WS.length cw false, posR w0.heap.size (some adp) co PS, Res.poolG kC 94 w0.heap.size PS, Res.blk ga #[.slice Ap parts.length cp] 26, wayR w0.heap.size Aw cw WS, Res.poolG kI 2 w0.heap.size WS, Res.row kI 2 w0.heap.size (.slice (some adm) ms.length cm) ms]) (rest := rest) [3, 0, 1, 2, 4, 5, 6] (Sp.out HS.out 3) rfl rfl⟩⟩
    | false =>
     rw [hct, if_neg (by simp)] at HFN
     have HCT := A0_ hct
     clear hct
     by_cases hfull : PS.length = 1200
     ·have c0_ : ((PS.length : Int) == 1200) = true := by rw [beq_iff_eq]; omega
      have c1_ : ((PS.length : Int) = 1200) = True := eq_true (by omega)
      rw [if_pos hfull] at HFN
      have HFF := A0_ (HFO.out HFN.out)
      clear hfull
      go_wp2_with (first
       | (go_at_call 111; refine (spec_l28Near.calls KN Ad cd nx true _ (Sp.reads HS.out (i := 0) rfl).2.2 (Sp.reads HS.out (i := 0) rfl).2.1 HKN.out).mono ?_; rintro e wn_ ⟨rfl, hb_⟩; replace HS := A0_ (Sp.far HS.out hb_); clear hb_)
       | (go_at_call 112; replace HS := A0_ (Sp.arr (pre := [Res.row kC 94 w0.heap.size (.slice Ad nx.length cd) nx, Res.blk ga #[.slice Ap parts.length cp] 26, srBlk gs (some adp) PS.length co Aw WS.length cw false, posR w0.heap.size (some adp) co PS, Res.poolG kC 94 w0.heap.size PS, wayR w0.heap.size Aw cw WS, Res.poolG kI 2 w0.heap.size WS, Res.row kI 2 w0.heap.size (.slice (some adm) ms.length cm) ms]) (pre' := [srBlk gs (some adp) PS.length co Aw WS.length cw false, posR w0.heap.size (some adp) co PS, Res.poolG kC 94 w0.heap.size PS, Res.row kC 94 w0.heap.size (.slice Ad nx.length cd) nx, Res.blk ga #[.slice Ap parts.length cp] 26, wayR w0.heap.size Aw cw WS, Res.poolG kI 2 w0.heap.size WS, Res.row kI 2 w0.heap.size (.slice (some adm) ms.length cm) ms]) (rest := rest) [2, 3, 4, 0, 1, 5, 6, 7] HS.out rfl rfl); refine (known_calls w0 gs (some adp) Aw co WS.length cw false PS HX.out.2.2.2.1.top (Res.row kC 94 w0.heap.size (.slice Ad nx.length cd) nx) Ad cd nx Rds.row (Sp.reads HS.out (i := 3) rfl).2.1 HSA.out ([Res.blk ga #[.slice Ap parts.length cp] 26, wayR w0.heap.size Aw cw WS, Res.poolG kI 2 w0.heap.size WS, Res.row kI 2 w0.heap.size (.slice (some adm) ms.length cm) ms] ++ rest) _ HS.out).mono ?_; rw [HCT.out]; rintro e wk_ ⟨rfl, hs_⟩; replace HS := A0_ (hs_); clear hs_; have hs0 := (cl_ HS 0 0 rfl).trans rfl; have hs2 := (cl_ HS 0 2 rfl).trans rfl; have zs2 := blk_frozen (Sp.blk HS.out (i := 0) rfl).1 2)
       | ((with_reducible refine gate_store (t := 4) (p := 59) rfl ?_); refine store_event rfl rfl rfl (w1 := wk_.setCell ⟨gs, 2, none⟩ (.bool true)) (by first | (go_simp; done) | (go_simp; rfl)) ?_; intro ws_ hw_; have HS_ := A0_ (Sp.set HS.out 0 rfl 2 (.bool true) (blk_put (cs' := #[.slice (some adp) PS.length co, .slice Aw WS.length cw, .bool true]) (Sp.blk HS.out (i := 0) rfl).1 2 _ rfl)); rw [← hw_] at HS_; clear HS hw_; have HS := HS_; clear HS_; clear hs0 hs2 zs2))
      (try simp only [Exit.inBlock, Exit.then])
      refine bodyPost_ret (results_none rfl _ _ _) rfl ?_
      refine ⟨rfl, ?_⟩
      rw [HFF.out]
      exact ⟨some adp, co, Aw, cw, PS, WS, HX.out.2.2.2.1, Sp.out (Sp.out (Sp.arr (pre := [srBlk gs (some adp) PS.length co Aw WS.length cw true, posR w0.heap.size (some adp) co PS, Res.poolG kC 94 w0.heap.size PS, Res.row kC 94 w0.heap.size (.slice Ad nx.length cd) nx, Res.blk ga #[.slice Ap parts.length cp] 26, wayR w0.heap.size Aw cw WS, Res.poolG kI 2 w0.heap.size WS, Res.row kI 2 w0.heap.size (.slice (some adm) ms.length cm) ms]) (pre' := [srBlk gs (some adp) PS.length co Aw WS.length cw true, posR w0.heap.size (some adp) co PS, Res.poolG kC 94 w0.heap.size PS, wayR w0.heap.size Aw cw WS, Res.poolG kI 2 w0.heap.size WS, Res.row kC 94 w0.heap.size (.slice Ad nx.length cd) nx, Res.blk ga #[.slice Ap parts.length cp] 26, Res.row kI 2 w0.heap.size (.slice (some adm) ms.length cm) ms]) (rest := rest) [0, 1, 2, 5, 6, 3, 4, 7] HS.out rfl rfl |> fun h => Sp.out h 7) 6) 5⟩
     ·have c0_ : ((PS.length : Int) == 1200) = false := by rw [beq_eq_false_iff_ne]; omega
      have c1_ : ((PS.length : Int) = 1200) = False := eq_false (by omega)
      rw [if_neg hfull] at HFN
      have HFULL := A0_ hfull
      clear hfull
      go_wp2_with (first
       | (go_at_call 111; refine (spec_l28Near.calls KN Ad cd nx true _ (Sp.reads HS.out (i := 0) rfl).2.2 (Sp.reads HS.out (i := 0) rfl).2.1 HKN.out).mono ?_; rintro e wn_ ⟨rfl, hb_⟩; replace HS := A0_ (Sp.far HS.out hb_); clear hb_)
       | (go_at_call 112; replace HS := A0_ (Sp.arr (pre := [Res.row kC 94 w0.heap.size (.slice Ad nx.length cd) nx, Res.blk ga #[.slice Ap parts.length cp] 26, srBlk gs (some adp) PS.length co Aw WS.length cw false, posR w0.heap.size (some adp) co PS, Res.poolG kC 94 w0.heap.size PS, wayR w0.heap.size Aw cw WS, Res.poolG kI 2 w0.heap.size WS, Res.row kI 2 w0.heap.size (.slice (some adm) ms.length cm) ms]) (pre' := [srBlk gs (some adp) PS.length co Aw WS.length cw false, posR w0.heap.size (some adp) co PS, Res.poolG kC 94 w0.heap.size PS, Res.row kC 94 w0.heap.size (.slice Ad nx.length cd) nx, Res.blk ga #[.slice Ap parts.length cp] 26, wayR w0.heap.size Aw cw WS, Res.poolG kI 2 w0.heap.size WS, Res.row kI 2 w0.heap.size (.slice (some adm) ms.length cm) ms]) (rest := rest) [2, 3, 4, 0, 1, 5, 6, 7] HS.out rfl rfl); refine (known_calls w0 gs (some adp) Aw co WS.length cw false PS HX.out.2.2.2.1.top (Res.row kC 94 w0.heap.size (.slice Ad nx.length cd) nx) Ad cd nx Rds.row (Sp.reads HS.out (i := 3) rfl).2.1 HSA.out ([Res.blk ga #[.slice Ap parts.length cp] 26, wayR w0.heap.size Aw cw WS, Res.poolG kI 2 w0.heap.size WS, Res.row kI 2 w0.heap.size (.slice (some adm) ms.length cm) ms] ++ rest) _ HS.out).mono ?_; rw [HCT.out]; rintro e wk_ ⟨rfl, hs_⟩; replace HS := A0_ (hs_); clear hs_; have hs0 := (cl_ HS 0 0 rfl).trans rfl)
       | ((with_reducible refine gate_builtin (b := .append) (xs := #[.tmp 64, .tmp 66]) rfl ?_); at_builtin; obtain ⟨fp_, ho_, hf_, hc_⟩ := Sp.row HS.out (i := 1) rfl; refine Kd.R_append kSl (w0 := w0) w0.heap.size rfl (.tmp 64) (.tmp 66) 24 35 (.slice none 0 0) 24 rfl Try.underlying24 info35 rfl (by decide) (by omega) (.slice (some adp) PS.length co) (PS.map Prod.fst) (((Ad, nx.length, cd) : Sl)) ([.slice Ad nx.length cd]) _ (fun _ => False) rfl rfl rfl (fun _ hk => hk.elim) (fun _ h => Or.inr h) ho_ HS.out.below HS.out.below.size ?aL ?_; (case aL => rw [List.length_map]; have := HX.out.2.2.2.1.top; omega); intro va_ wa_ ho hb hg hat; replace HS := A0_ (hc_ _ _ _ ho hg); clear ho hb hg hat hc_ hf_ ho_ fp_; obtain ⟨Ao2, co2, ev_⟩ := Sp.slice HS.out (i := 1) rfl; subst ev_; clear hs0; have hs0 := (cl_ HS 0 0 rfl).trans rfl; have zs0 := blk_frozen (Sp.blk HS.out (i := 0) rfl).1 0)
       | ((with_reducible refine gate_store (t := 24) (p := 69) rfl ?_); refine store_event rfl rfl rfl (w1 := wa_.setCell ⟨gs, 0, none⟩ (.slice Ao2 (PS.length + 1) co2)) (by first | (go_simp; done) | (go_simp; rfl)) ?_; intro ws_ hw_; have HS_ := A0_ (Sp.set HS.out 0 rfl 0 (.slice Ao2 (PS.length + 1) co2) (blk_put (cs' := #[.slice Ao2 (PS.length + 1) co2, .slice Aw WS.length cw, .bool false]) (Sp.blk HS.out (i := 0) rfl).1 0 _ rfl)); rw [← hw_] at HS_; clear HS hw_; have HS := HS_; clear HS_; clear hs0 zs0))
      have hel : (PS.map Prod.fst ++ [((Ad, nx.length, cd) : Sl)]).length = PS.length + 1 := by rw [List.length_append, List.length_map]; rfl
      have h0 := HS.out
      rw [hel] at h0
      have h1 : Sp w0 ([Res.row kC 94 w0.heap.size (.slice Ad nx.length cd) nx, Res.poolG kC 94 w0.heap.size PS, srBlk gs Ao2 (PS.length + 1) co2 Aw WS.length cw false, Res.row kSl 35 w0.heap.size (.slice Ao2 (PS.length + 1) co2) (PS.map Prod.fst ++ [((Ad, nx.length, cd) : Sl)]), Res.blk ga #[.slice Ap parts.length cp] 26, wayR w0.heap.size Aw cw WS, Res.poolG kI 2 w0.heap.size WS, Res.row kI 2 w0.heap.size (.slice (some adm) ms.length cm) ms] ++ rest) ws_ := Sp.arr (pre := [srBlk gs Ao2 (PS.length + 1) co2 Aw WS.length cw false, Res.row kSl 35 w0.heap.size (.slice Ao2 (PS.length + 1) co2) (PS.map Prod.fst ++ [((Ad, nx.length, cd) : Sl)]), Res.poolG kC 94 w0.heap.size PS, Res.row kC 94 w0.heap.size (.slice Ad nx.length cd) nx, Res.blk ga #[.slice Ap parts.length cp] 26, wayR w0.heap.size Aw cw WS, Res.poolG kI 2 w0.heap.size WS, Res.row kI 2 w0.heap.size (.slice (some adm) ms.length cm) ms]) (rest := rest) [3, 2, 0, 1, 4, 5, 6, 7] h0 rfl rfl
      have h2 := Sp.poolGAdd h1
      obtain ⟨pw, hwk, hwy⟩ := HX.out.2.2.2.2.2
      have hmw := List.mem_of_getElem? hwk
      obtain ⟨f1, f2, _⟩ := Sp.poolGC h2 (i := 5) rfl hmw
      have hwl := HX.out.2.2.2.1.way k pw hwk
      obtain ⟨⟨Ak, nk, ck⟩, wk⟩ := pw
      dsimp only at f1 f2 hwl hwy
      subst hwy
      subst f1
      have HGD := A0_ (show (WS.map Prod.fst).getD k (none, 0, 0) = (Ak, wk.length, ck) by rw [List.getD_eq_getElem?_getD, List.getElem?_map, hwk]; rfl)
      have HKW := A0_ (show k < WS.length from (List.getElem?_eq_some_iff.1 hwk).1)
      have HWM := A0_ hmw
      have HWC := A0_ f2
      have HWL := A0_ (show wk.length ≤ 1200 by have h1 := (List.getElem?_eq_some_iff.1 hwk).1; have h2 := HX.out.2.2.2.1.top; have h3 := HX.out.2.2.2.1.len; omega)
      have HWK := A0_ (show wk.length ≤ WS.length - 1 by have h1 := (List.getElem?_eq_some_iff.1 hwk).1; omega)
      obtain ⟨adw, e, hjunk⟩ := at_Sl (Sp.reads h2 (i := 4) rfl).2.2 k (by rw [List.length_map]; exact HKW.out)
      subst e
      have HOW := A0_ (show spec_l01Own.f wk = some wk by
       show ((some (([] : List Int) : List Int)).bind fun y438 => (if y438.length + wk.length < 17592186044416 then (some (y438 ++ wk)) else (none))) = some wk
       rw [Option.bind_some, if_pos (by have := HWL.out; simp only [List.length_nil]; omega)]
       rfl)
      have HS_ := A0_ (show Sp w0 ([srBlk gs Ao2 (PS.length + 1) co2 (some adw) WS.length cw false, Res.row kSl 35 w0.heap.size (.slice Ao2 (PS.length + 1) co2) (PS.map Prod.fst ++ [((Ad, nx.length, cd) : Sl)]), Res.poolG kC 94 w0.heap.size (PS ++ [(((Ad, nx.length, cd) : Sl), nx)]), Res.blk ga #[.slice Ap parts.length cp] 26, Res.row kSl 28 w0.heap.size (.slice (some adw) WS.length cw) (WS.map Prod.fst), Res.poolG kI 2 w0.heap.size WS, Res.row kI 2 w0.heap.size (.slice (some adm) ms.length cm) ms] ++ rest) ws_.drew from Sp.drew (Sp.arr (pre := [Res.poolG kC 94 w0.heap.size (PS ++ [(((Ad, nx.length, cd) : Sl), nx)]), srBlk gs Ao2 (PS.length + 1) co2 (some adw) WS.length cw false, Res.row kSl 35 w0.heap.size (.slice Ao2 (PS.length + 1) co2) (PS.map Prod.fst ++ [((Ad, nx.length, cd) : Sl)]), Res.blk ga #[.slice Ap parts.length cp] 26, Res.row kSl 28 w0.heap.size (.slice (some adw) WS.length cw) (WS.map Prod.fst), Res.poolG kI 2 w0.heap.size WS, Res.row kI 2 w0.heap.size (.slice (some adm) ms.length cm) ms]) (rest := rest) [1, 2, 0, 3, 4, 5, 6] h2 rfl rfl))
      clear HS h0 h1 h2 hmw hwk f2 hwl hjunk hel
      have HS := HS_
      clear HS_
      refine start_ (n := 24) (S := fun w' => w'.cell? ⟨gs, 1, none⟩ = some (.slice (some adw) WS.length cw) ∧ w'.cell? (adm.add j) = some (.int .i64 m)) (ds := [23]) #[false, false, false, false, false, false, false, false, false, false, false, false, false, false, false, false, false, false, false, false, false, false, false, false] (by kernel_rfl) rfl rfl (⟨(cl_ HS 0 1 rfl).trans rfl, (HMJ.out ▸ Sp.intCell HS.out (i := 6) rfl j HJL.out)⟩) (fun hHeld => ?_)
      refine with_tabW expF.tab10 expF.bits10 (fun HT_ HW_ => ?_)
      generalize ws_.drew = wD at HS hHeld ⊢
      refine on_ 0 (some 70) ?_
      refine on_ 1 (some 71) ?_
      refine on_ 2 (some 72) ?_
      refine on_ 3 (some 73) ?_
      refine tk_ 4 (some 74) ?_
      refine on_ 5 (some 75) ?_
      refine on_ 6 (some 76) ?_
      refine on_ 7 (some 77) ?_
      refine tk_ 8 (some 78) ?_
      refine on_ 9 (some 79) ?_
      refine on_ 10 (some 80) ?_
      refine on_ 13 (some 83) ?_
      refine on_ 14 (some 84) ?_
      refine on_ 15 (some 85) ?_
      refine tk_ 16 (some 86) ?_
      refine o2_ 11 17 (some 81) (some 87) (fun K hK => ?_) (fun K hK => ?_)
      ·have hxw_ := Sp.slCell HS.out (i := 4) rfl k HKW.out
       rw [HGD.out] at hxw_
       refine event_step (v := .slice Ak wk.length ck) (w1 := wD) (by rfl) (by first | (go_simp; done) | (go_simp; rfl)) ?_
       clear hxw_
       refine hK.out _ _ (⟨(cl_ HS 0 1 rfl).trans rfl, (HMJ.out ▸ Sp.intCell HS.out (i := 6) rfl j HJL.out)⟩) (fun hHeld => ?_)
       clear hK K
       refine nm_ (some 81) ?_
       refine o2_ 12 17 (some 82) (some 87) (fun K hK => ?_) (fun K hK => ?_)
       ·refine gs_ Try.func113 #[.slice Ak wk.length ck] ?_
        refine (spec_l01Own.calls Ak ck wk wk _ (Sp.poolGC HS.out (i := 5) rfl HWM.out).2.2 HWC.out HOW.out).mono ?_
        rintro e wA11 ⟨vA11, rfl, ho, hb⟩
        refine ⟨_, rfl, ?_⟩
        replace HS := A0_ (Sp.made' HS.out hb ho)
        clear hb ho
        obtain ⟨AA11, cA11, rfl⟩ := Sp.slice HS.out (i := 0) rfl
        refine hK.out _ _ (⟨(cl_ HS 1 1 rfl).trans rfl, (HMJ.out ▸ Sp.intCell HS.out (i := 7) rfl j HJL.out)⟩) (fun hHeld => ?_)
        clear hK K
        refine nm_ (some 82) ?_
        refine o1_ 17 (some 87) (fun K hK => ?_)
        refine Kd.R_lit_step kI _ 2 ?hg (N := 87) ?hd (xs := ([m] : List Int)) (inner := [.int .i64 m]) (ok := fun _ => True) (okp := fun _ => True) ?hr ?hp (fun _ hk => hk) trivial (Below.refl _ _) (Nat.le_refl _) (by simp) ?_
        (case hd => rfl)
        (case hg => rfl)
        (case hr => first | (go_simp; done) | (go_simp; rfl))
        (case hp => exact (Reps.one rfl (Reps.none _ _)))
        intro vA12 wA12 ho hb hg_ hnew_
        clear hg_ hnew_
        replace HS := A0_ (Sp.made' HS.out hb ho)
        clear hb ho
        obtain ⟨AA12, cA12, eA_⟩ := Sp.slice HS.out (i := 0) rfl
        subst eA_
        refine hK.out _ _ (⟨(cl_ HS 2 1 rfl).trans rfl, (HMJ.out ▸ Sp.intCell HS.out (i := 8) rfl j HJL.out)⟩) (fun hHeld => ?_)
        clear hK K
        refine nm_ (some 87) ?_
        refine o1_ 18 (some 88) (fun K hK => ?_)
        obtain ⟨fp_, ho_, hf_, hc_⟩ := Sp.row HS.out (i := 1) rfl
        refine Kd.R_append_rows_step kI w0.heap.size (by rfl) (.tmp 82) (.tmp 87) 28 2 (.int .i64 0) 8 rfl Try.underlying28 info2 rfl (by decide) (by omega) _ (wk) ([m] : List Int) _ _ _ _ (fun _ => False) rfl rfl ho_ (Sp.reads HS.out (i := 0) rfl).2.2 (fun _ _ h => h) (fun _ h => h.elim) (fun _ h => .inr h) HS.out.below HS.out.below.size ?aL ?_
        (case aL => have := HWL.out; simp only [List.length_cons, List.length_nil]; omega)
        intro vA13 wA13 ho hb hg hat
        replace HS := A0_ (hc_ _ _ _ ho hg)
        clear ho hb hg hat ho_ hf_ hc_ fp_
        obtain ⟨AA13, cA13, eA_⟩ := Sp.slice HS.out (i := 1) rfl
        subst eA_
        refine hK.out _ _ (⟨(cl_ HS 2 1 rfl).trans rfl, (HMJ.out ▸ Sp.intCell HS.out (i := 8) rfl j HJL.out)⟩) (fun hHeld => ?_)
        clear hK K
        refine nm_ (some 88) ?_
        refine o1_ 19 (some 89) (fun K hK => ?_)
        refine Kd.R_lit_step kSl _ 28 ?hg (N := 89) ?hd (xs := ([(AA13, (wk ++ [m]).length, cA13)] : List Sl)) (inner := [.slice AA13 (wk ++ [m]).length cA13]) (ok := fun _ => True) (okp := fun _ => True) ?hr ?hp (fun _ hk => hk) trivial (Below.refl _ _) (Nat.le_refl _) (by simp) ?_
        (case hd => rfl)
        (case hg => rfl)
        (case hr => first | (go_simp; done) | (go_simp; rfl))
        (case hp => exact (Reps.one rfl (Reps.none _ _)))
        intro vA14 wA14 ho hb hg_ hnew_
        clear hg_ hnew_
        replace HS := A0_ (Sp.made' HS.out hb ho)
        clear hb ho
        obtain ⟨AA14, cA14, eA_⟩ := Sp.slice HS.out (i := 0) rfl
        subst eA_
        refine hK.out _ _ (⟨(cl_ HS 3 1 rfl).trans rfl, (HMJ.out ▸ Sp.intCell HS.out (i := 9) rfl j HJL.out)⟩) (fun hHeld => ?_)
        clear hK K
        refine nm_ (some 89) ?_
        refine o1_ 20 (some 90) (fun K hK => ?_)
        obtain ⟨fp_, ho_, hf_, hc_⟩ := Sp.row HS.out (i := 7) rfl
        refine Kd.R_append_rows_step kSl w0.heap.size (by rfl) (.tmp 74) (.tmp 89) 87 28 (.slice none 0 0) 24 rfl Try.underlying87 info28 rfl (by decide) (by omega) _ (WS.map Prod.fst) ([(AA13, (wk ++ [m]).length, cA13)] : List Sl) _ _ _ _ (fun _ => False) rfl rfl ho_ (Sp.reads HS.out (i := 0) rfl).2.2 (fun _ _ h => h) (fun _ h => h.elim) (fun _ h => .inr h) HS.out.below HS.out.below.size ?aL ?_
        (case aL => have h1_ := HX.out.2.2.2.1.top; have h2_ := HX.out.2.2.2.1.len; simp only [List.length_cons, List.length_nil, List.length_map]; omega)
        intro vA15 wA15 ho hb hg hat
        replace HS := A0_ (hc_ _ _ _ ho hg)
        clear ho hb hg hat ho_ hf_ hc_ fp_
        obtain ⟨AA15, cA15, eA_⟩ := Sp.slice HS.out (i := 7) rfl
        subst eA_
        refine hK.out _ _ (⟨(cl_ HS 3 1 rfl).trans rfl, (HMJ.out ▸ Sp.intCell HS.out (i := 9) rfl j HJL.out)⟩) (fun hHeld => ?_)
        clear hK K
        refine nm_ (some 90) ?_
        refine on_ 21 (some 91) ?_
        refine on_ 22 (some 92) ?_
        refine ol_ 23 none (fun K hK => ?_)
        have hlw_ : (WS.map Prod.fst ++ [((AA13, (wk ++ [m]).length, cA13) : Sl)]).length = WS.length + 1 := by rw [List.length_append, List.length_map]; rfl
        have hz_ := blk_frozen (Sp.blk HS.out (i := 3) rfl).1 1
        have hy_ : wA15.cell? ⟨gs, 1, none⟩ = some (.slice (some adw) WS.length cw) := (cl_ HS 3 1 rfl).trans rfl
        refine skip_ (w1 := wA15.setCell ⟨gs, 1, none⟩ (.slice AA15 (WS.length + 1) cA15)) (by rfl) rfl (by first | (go_simp; done) | (go_simp; rfl)) ?_
        replace HS := A0_ (Sp.set HS.out 3 rfl 1 (.slice AA15 (WS.length + 1) cA15) (blk_put (cs' := #[.slice Ao2 (PS.length + 1) co2, .slice AA15 (WS.length + 1) cA15, .bool false]) (Sp.blk HS.out (i := 3) rfl).1 1 _ rfl))
        clear hz_ hy_
        refine hK.out _ _ ?_
        clear hK K
        refine dn_ ?_
        replace HS := A0_ (Sp.arr (pre := [Res.row kSl 28 w0.heap.size (.slice AA14 (([(AA13, (wk ++ [m]).length, cA13)] : List Sl)).length cA14) (([(AA13, (wk ++ [m]).length, cA13)] : List Sl)), Res.row kI 2 w0.heap.size (.slice AA12 (([m] : List Int)).length cA12) (([m] : List Int)), Res.row kI 2 w0.heap.size (.slice AA13 ((wk) ++ ([m] : List Int)).length cA13) ((wk) ++ ([m] : List Int)), Res.blk gs #[.slice Ao2 (PS.length + 1) co2, .slice AA15 (WS.length + 1) cA15, .bool false] 89, Res.row kSl 35 w0.heap.size (.slice Ao2 (PS.length + 1) co2) (PS.map Prod.fst ++ [((Ad, nx.length, cd) : Sl)]), Res.poolG kC 94 w0.heap.size (PS ++ [(((Ad, nx.length, cd) : Sl), nx)]), Res.blk ga #[.slice Ap parts.length cp] 26, Res.row kSl 28 w0.heap.size (.slice AA15 ((WS.map Prod.fst) ++ ([(AA13, (wk ++ [m]).length, cA13)] : List Sl)).length cA15) ((WS.map Prod.fst) ++ ([(AA13, (wk ++ [m]).length, cA13)] : List Sl)), Res.poolG kI 2 w0.heap.size WS, Res.row kI 2 w0.heap.size (.slice (some adm) ms.length cm) ms]) (pre' := [Res.row kI 2 w0.heap.size (.slice AA13 ((wk) ++ ([m] : List Int)).length cA13) ((wk) ++ ([m] : List Int)), Res.poolG kI 2 w0.heap.size WS, Res.blk gs #[.slice Ao2 (PS.length + 1) co2, .slice AA15 (WS.length + 1) cA15, .bool false] 89, Res.row kSl 35 w0.heap.size (.slice Ao2 (PS.length + 1) co2) (PS.map Prod.fst ++ [((Ad, nx.length, cd) : Sl)]), Res.poolG kC 94 w0.heap.size (PS ++ [(((Ad, nx.length, cd) : Sl), nx)]), Res.blk ga #[.slice Ap parts.length cp] 26, Res.row kSl 28 w0.heap.size (.slice AA15 ((WS.map Prod.fst) ++ ([(AA13, (wk ++ [m]).length, cA13)] : List Sl)).length cA15) ((WS.map Prod.fst) ++ ([(AA13, (wk ++ [m]).length, cA13)] : List Sl)), Res.row kI 2 w0.heap.size (.slice (some adm) ms.length cm) ms, Res.row kSl 28 w0.heap.size (.slice AA14 (([(AA13, (wk ++ [m]).length, cA13)] : List Sl)).length cA14) (([(AA13, (wk ++ [m]).length, cA13)] : List Sl)), Res.row kI 2 w0.heap.size (.slice AA12 (([m] : List Int)).length cA12) (([m] : List Int))]) (rest := rest) [2, 8, 3, 4, 5, 6, 7, 9, 0, 1] HS.out rfl rfl)
        try go_wp2
        go_roundg k1
        case measure => omega
        case rel =>
         rw [HWJ.out]
         obtain ⟨PS2, hPS2⟩ : ∃ PS2, PS2 = PS ++ [(((Ad, nx.length, cd) : Sl), nx)] := ⟨_, rfl⟩
         obtain ⟨WS2, hWS2⟩ : ∃ WS2, WS2 = WS ++ [(((AA13, (wk ++ [m]).length, cA13) : Sl), wk ++ [m])] := ⟨_, rfl⟩
         have e1 : PS2.length = PS.length + 1 := by rw [hPS2, List.length_append]; rfl
         have e2 : PS2.map Prod.fst = PS.map Prod.fst ++ [((Ad, nx.length, cd) : Sl)] := by rw [hPS2, List.map_append]; rfl
         have e3 : PS2.map Prod.snd = PS.map Prod.snd ++ [nx] := by rw [hPS2, List.map_append]; rfl
         have f1 : WS2.length = WS.length + 1 := by rw [hWS2, List.length_append]; rfl
         have f2 : WS2.map Prod.fst = WS.map Prod.fst ++ [((AA13, (wk ++ [m]).length, cA13) : Sl)] := by rw [hWS2, List.map_append]; rfl
         have f3 : (WS.map Prod.fst ++ [((AA13, (wk ++ [m]).length, cA13) : Sl)]).length = WS.length + 1 := by rw [List.length_append, List.length_map]; rfl
         have h := HS.out
         rw [f3] at h
         have h2 := Sp.poolGAdd h
         rw [← hWS2, ← hPS2, ← e1, ← e2, ← f1, ← f2] at h2
         have hok := HX.out.2.2.2.1
         refine ⟨j + 1, Ao2, co2, AA15, cA15, PS2, WS2, rfl, ⟨by have := of_decide_eq_true cj0; omega, by have := HX.out; omega, by rw [HFN.out, hPS2, hWS2, ndW_add hok.len], ⟨by rw [e1, f1, hok.len], ?_, ?_, ?_, ?_⟩, ?_, ?_⟩, ⟨?_⟩⟩
         ·have h1 := hok.top
          have h3 := HFULL.out
          omega
         ·intro p hp
          rw [hPS2] at hp
          rcases List.mem_append.1 hp with hp | hp
          ·exact hok.pos p hp
          ·obtain rfl := List.mem_singleton.1 hp
           exact HNL.out
         ·intro i p hp
          rw [hWS2] at hp
          by_cases c : i < WS.length
          ·rw [List.getElem?_append_left c] at hp
           exact hok.way i p hp
          ·rw [List.getElem?_append_right (by omega)] at hp
           have hi : i - WS.length = 0 := by
            by_cases c2 : i - WS.length = 0
            ·exact c2
            ·rw [List.getElem?_eq_none (by simp; omega)] at hp
             cases hp
           rw [hi] at hp
           obtain rfl := Option.some.inj hp
           show (wk ++ [m]).length ≤ i
           have h1 := HWK.out
           have h3 := HKW.out
           rw [List.length_append, List.length_singleton]
           omega
         ·intro p hp
          rw [hPS2] at hp
          rcases List.mem_append.1 hp with hp | hp
          ·exact hok.near p hp
          ·obtain rfl := List.mem_singleton.1 hp
           exact HAN.out
         ·rw [hPS2, List.getElem?_append_left (List.getElem?_eq_some_iff.1 HX.out.2.2.2.2.1).1]
          exact HX.out.2.2.2.2.1
         ·obtain ⟨q, hq, hq2⟩ := HX.out.2.2.2.2.2
          exact ⟨q, by rw [hWS2, List.getElem?_append_left (List.getElem?_eq_some_iff.1 hq).1]; exact hq, hq2⟩
         ·rw [← f1]
          exact Sp.out (Sp.out (Sp.arr (pre := [Res.poolG kI 2 w0.heap.size WS2, srBlk gs Ao2 PS2.length co2 AA15 WS2.length cA15 false, posR w0.heap.size Ao2 co2 PS2, Res.poolG kC 94 w0.heap.size PS2, Res.blk ga #[.slice Ap parts.length cp] 26, wayR w0.heap.size AA15 cA15 WS2, Res.row kI 2 w0.heap.size (.slice (some adm) ms.length cm) ms]) (pre' := [Res.blk ga #[.slice Ap parts.length cp] 26, srBlk gs Ao2 PS2.length co2 AA15 WS2.length cA15 false, posR w0.heap.size Ao2 co2 PS2, Res.poolG kC 94 w0.heap.size PS2, wayR w0.heap.size AA15 cA15 WS2, Res.poolG kI 2 w0.heap.size WS2, Res.row kI 2 w0.heap.size (.slice (some adm) ms.length cm) ms]) (rest := _ :: _ :: rest) [4, 1, 2, 3, 5, 0, 6] h2 rfl rfl) 8) 7
       ·refine Kd.R_lit_step kI _ 2 ?hg (N := 87) ?hd (xs := ([m] : List Int)) (inner := [.int .i64 m]) (ok := fun _ => True) (okp := fun _ => True) ?hr ?hp (fun _ hk => hk) trivial (Below.refl _ _) (Nat.le_refl _) (by simp) ?_
        (case hd => rfl)
        (case hg => rfl)
        (case hr => first | (go_simp; done) | (go_simp; rfl))
        (case hp => exact (Reps.one rfl (Reps.none _ _)))
        intro vA11 wA11 ho hb hg_ hnew_
        clear hg_ hnew_
        replace HS := A0_ (Sp.made' HS.out hb ho)
        clear hb ho
        obtain ⟨AA11, cA11, eA_⟩ := Sp.slice HS.out (i := 0) rfl
        subst eA_
        refine hK.out _ _ (⟨(cl_ HS 1 1 rfl).trans rfl, (HMJ.out ▸ Sp.intCell HS.out (i := 7) rfl j HJL.out)⟩) (fun hHeld => ?_)
        clear hK K
        refine nm_ (some 87) ?_
        refine o1_ 12 (some 82) (fun K hK => ?_)
        refine gs_ Try.func113 #[.slice Ak wk.length ck] ?_
        refine (spec_l01Own.calls Ak ck wk wk _ (Sp.poolGC HS.out (i := 6) rfl HWM.out).2.2 HWC.out HOW.out).mono ?_
        rintro e wA12 ⟨vA12, rfl, ho, hb⟩
        refine ⟨_, rfl, ?_⟩
        replace HS := A0_ (Sp.made' HS.out hb ho)
        clear hb ho
        obtain ⟨AA12, cA12, rfl⟩ := Sp.slice HS.out (i := 0) rfl
        refine hK.out _ _ (⟨(cl_ HS 2 1 rfl).trans rfl, (HMJ.out ▸ Sp.intCell HS.out (i := 8) rfl j HJL.out)⟩) (fun hHeld => ?_)
        clear hK K
        refine nm_ (some 82) ?_
        refine o1_ 18 (some 88) (fun K hK => ?_)
        obtain ⟨fp_, ho_, hf_, hc_⟩ := Sp.row HS.out (i := 0) rfl
        refine Kd.R_append_rows_step kI w0.heap.size (by rfl) (.tmp 82) (.tmp 87) 28 2 (.int .i64 0) 8 rfl Try.underlying28 info2 rfl (by decide) (by omega) _ (wk) ([m] : List Int) _ _ _ _ (fun _ => False) rfl rfl ho_ (Sp.reads HS.out (i := 1) rfl).2.2 (fun _ _ h => h) (fun _ h => h.elim) (fun _ h => .inr h) HS.out.below HS.out.below.size ?aL ?_
        (case aL => have := HWL.out; simp only [List.length_cons, List.length_nil]; omega)
        intro vA13 wA13 ho hb hg hat
        replace HS := A0_ (hc_ _ _ _ ho hg)
        clear ho hb hg hat ho_ hf_ hc_ fp_
        obtain ⟨AA13, cA13, eA_⟩ := Sp.slice HS.out (i := 0) rfl
        subst eA_
        refine hK.out _ _ (⟨(cl_ HS 2 1 rfl).trans rfl, (HMJ.out ▸ Sp.intCell HS.out (i := 8) rfl j HJL.out)⟩) (fun hHeld => ?_)
        clear hK K
        refine nm_ (some 88) ?_
        refine o1_ 19 (some 89) (fun K hK => ?_)
        refine Kd.R_lit_step kSl _ 28 ?hg (N := 89) ?hd (xs := ([(AA13, (wk ++ [m]).length, cA13)] : List Sl)) (inner := [.slice AA13 (wk ++ [m]).length cA13]) (ok := fun _ => True) (okp := fun _ => True) ?hr ?hp (fun _ hk => hk) trivial (Below.refl _ _) (Nat.le_refl _) (by simp) ?_
        (case hd => rfl)
        (case hg => rfl)
        (case hr => first | (go_simp; done) | (go_simp; rfl))
        (case hp => exact (Reps.one rfl (Reps.none _ _)))
        intro vA14 wA14 ho hb hg_ hnew_
        clear hg_ hnew_
        replace HS := A0_ (Sp.made' HS.out hb ho)
        clear hb ho
        obtain ⟨AA14, cA14, eA_⟩ := Sp.slice HS.out (i := 0) rfl
        subst eA_
        refine hK.out _ _ (⟨(cl_ HS 3 1 rfl).trans rfl, (HMJ.out ▸ Sp.intCell HS.out (i := 9) rfl j HJL.out)⟩) (fun hHeld => ?_)
        clear hK K
        refine nm_ (some 89) ?_
        refine o1_ 20 (some 90) (fun K hK => ?_)
        obtain ⟨fp_, ho_, hf_, hc_⟩ := Sp.row HS.out (i := 7) rfl
        refine Kd.R_append_rows_step kSl w0.heap.size (by rfl) (.tmp 74) (.tmp 89) 87 28 (.slice none 0 0) 24 rfl Try.underlying87 info28 rfl (by decide) (by omega) _ (WS.map Prod.fst) ([(AA13, (wk ++ [m]).length, cA13)] : List Sl) _ _ _ _ (fun _ => False) rfl rfl ho_ (Sp.reads HS.out (i := 0) rfl).2.2 (fun _ _ h => h) (fun _ h => h.elim) (fun _ h => .inr h) HS.out.below HS.out.below.size ?aL ?_
        (case aL => have h1_ := HX.out.2.2.2.1.top; have h2_ := HX.out.2.2.2.1.len; simp only [List.length_cons, List.length_nil, List.length_map]; omega)
        intro vA15 wA15 ho hb hg hat
        replace HS := A0_ (hc_ _ _ _ ho hg)
        clear ho hb hg hat ho_ hf_ hc_ fp_
        obtain ⟨AA15, cA15, eA_⟩ := Sp.slice HS.out (i := 7) rfl
        subst eA_
        refine hK.out _ _ (⟨(cl_ HS 3 1 rfl).trans rfl, (HMJ.out ▸ Sp.intCell HS.out (i := 9) rfl j HJL.out)⟩) (fun hHeld => ?_)
        clear hK K
        refine nm_ (some 90) ?_
        refine on_ 21 (some 91) ?_
        refine on_ 22 (some 92) ?_
        refine ol_ 23 none (fun K hK => ?_)
        have hlw_ : (WS.map Prod.fst ++ [((AA13, (wk ++ [m]).length, cA13) : Sl)]).length = WS.length + 1 := by rw [List.length_append, List.length_map]; rfl
        have hz_ := blk_frozen (Sp.blk HS.out (i := 3) rfl).1 1
        have hy_ : wA15.cell? ⟨gs, 1, none⟩ = some (.slice (some adw) WS.length cw) := (cl_ HS 3 1 rfl).trans rfl
        refine skip_ (w1 := wA15.setCell ⟨gs, 1, none⟩ (.slice AA15 (WS.length + 1) cA15)) (by rfl) rfl (by first | (go_simp; done) | (go_simp; rfl)) ?_
        replace HS := A0_ (Sp.set HS.out 3 rfl 1 (.slice AA15 (WS.length + 1) cA15) (blk_put (cs' := #[.slice Ao2 (PS.length + 1) co2, .slice AA15 (WS.length + 1) cA15, .bool false]) (Sp.blk HS.out (i := 3) rfl).1 1 _ rfl))
        clear hz_ hy_
        refine hK.out _ _ ?_
        clear hK K
        refine dn_ ?_
        replace HS := A0_ (Sp.arr (pre := [Res.row kSl 28 w0.heap.size (.slice AA14 (([(AA13, (wk ++ [m]).length, cA13)] : List Sl)).length cA14) (([(AA13, (wk ++ [m]).length, cA13)] : List Sl)), Res.row kI 2 w0.heap.size (.slice AA13 ((wk) ++ ([m] : List Int)).length cA13) ((wk) ++ ([m] : List Int)), Res.row kI 2 w0.heap.size (.slice AA11 (([m] : List Int)).length cA11) (([m] : List Int)), Res.blk gs #[.slice Ao2 (PS.length + 1) co2, .slice AA15 (WS.length + 1) cA15, .bool false] 89, Res.row kSl 35 w0.heap.size (.slice Ao2 (PS.length + 1) co2) (PS.map Prod.fst ++ [((Ad, nx.length, cd) : Sl)]), Res.poolG kC 94 w0.heap.size (PS ++ [(((Ad, nx.length, cd) : Sl), nx)]), Res.blk ga #[.slice Ap parts.length cp] 26, Res.row kSl 28 w0.heap.size (.slice AA15 ((WS.map Prod.fst) ++ ([(AA13, (wk ++ [m]).length, cA13)] : List Sl)).length cA15) ((WS.map Prod.fst) ++ ([(AA13, (wk ++ [m]).length, cA13)] : List Sl)), Res.poolG kI 2 w0.heap.size WS, Res.row kI 2 w0.heap.size (.slice (some adm) ms.length cm) ms]) (pre' := [Res.row kI 2 w0.heap.size (.slice AA13 ((wk) ++ ([m] : List Int)).length cA13) ((wk) ++ ([m] : List Int)), Res.poolG kI 2 w0.heap.size WS, Res.blk gs #[.slice Ao2 (PS.length + 1) co2, .slice AA15 (WS.length + 1) cA15, .bool false] 89, Res.row kSl 35 w0.heap.size (.slice Ao2 (PS.length + 1) co2) (PS.map Prod.fst ++ [((Ad, nx.length, cd) : Sl)]), Res.poolG kC 94 w0.heap.size (PS ++ [(((Ad, nx.length, cd) : Sl), nx)]), Res.blk ga #[.slice Ap parts.length cp] 26, Res.row kSl 28 w0.heap.size (.slice AA15 ((WS.map Prod.fst) ++ ([(AA13, (wk ++ [m]).length, cA13)] : List Sl)).length cA15) ((WS.map Prod.fst) ++ ([(AA13, (wk ++ [m]).length, cA13)] : List Sl)), Res.row kI 2 w0.heap.size (.slice (some adm) ms.length cm) ms, Res.row kSl 28 w0.heap.size (.slice AA14 (([(AA13, (wk ++ [m]).length, cA13)] : List Sl)).length cA14) (([(AA13, (wk ++ [m]).length, cA13)] : List Sl)), Res.row kI 2 w0.heap.size (.slice AA11 (([m] : List Int)).length cA11) (([m] : List Int))]) (rest := rest) [1, 8, 3, 4, 5, 6, 7, 9, 0, 2] HS.out rfl rfl)
        try go_wp2
        go_roundg k1
        case measure => omega
        case rel =>
         rw [HWJ.out]
         obtain ⟨PS2, hPS2⟩ : ∃ PS2, PS2 = PS ++ [(((Ad, nx.length, cd) : Sl), nx)] := ⟨_, rfl⟩
         obtain ⟨WS2, hWS2⟩ : ∃ WS2, WS2 = WS ++ [(((AA13, (wk ++ [m]).length, cA13) : Sl), wk ++ [m])] := ⟨_, rfl⟩
         have e1 : PS2.length = PS.length + 1 := by rw [hPS2, List.length_append]; rfl
         have e2 : PS2.map Prod.fst = PS.map Prod.fst ++ [((Ad, nx.length, cd) : Sl)] := by rw [hPS2, List.map_append]; rfl
         have e3 : PS2.map Prod.snd = PS.map Prod.snd ++ [nx] := by rw [hPS2, List.map_append]; rfl
         have f1 : WS2.length = WS.length + 1 := by rw [hWS2, List.length_append]; rfl
         have f2 : WS2.map Prod.fst = WS.map Prod.fst ++ [((AA13, (wk ++ [m]).length, cA13) : Sl)] := by rw [hWS2, List.map_append]; rfl
         have f3 : (WS.map Prod.fst ++ [((AA13, (wk ++ [m]).length, cA13) : Sl)]).length = WS.length + 1 := by rw [List.length_append, List.length_map]; rfl
         have h := HS.out
         rw [f3] at h
         have h2 := Sp.poolGAdd h
         rw [← hWS2, ← hPS2, ← e1, ← e2, ← f1, ← f2] at h2
         have hok := HX.out.2.2.2.1
         refine ⟨j + 1, Ao2, co2, AA15, cA15, PS2, WS2, rfl, ⟨by have := of_decide_eq_true cj0; omega, by have := HX.out; omega, by rw [HFN.out, hPS2, hWS2, ndW_add hok.len], ⟨by rw [e1, f1, hok.len], ?_, ?_, ?_, ?_⟩, ?_, ?_⟩, ⟨?_⟩⟩
         ·have h1 := hok.top
          have h3 := HFULL.out
          omega
         ·intro p hp
          rw [hPS2] at hp
          rcases List.mem_append.1 hp with hp | hp
          ·exact hok.pos p hp
          ·obtain rfl := List.mem_singleton.1 hp
           exact HNL.out
         ·intro i p hp
          rw [hWS2] at hp
          by_cases c : i < WS.length
          ·rw [List.getElem?_append_left c] at hp
           exact hok.way i p hp
          ·rw [List.getElem?_append_right (by omega)] at hp
           have hi : i - WS.length = 0 := by
            by_cases c2 : i - WS.length = 0
            ·exact c2
            ·rw [List.getElem?_eq_none (by simp; omega)] at hp
             cases hp
           rw [hi] at hp
           obtain rfl := Option.some.inj hp
           show (wk ++ [m]).length ≤ i
           have h1 := HWK.out
           have h3 := HKW.out
           rw [List.length_append, List.length_singleton]
           omega
         ·intro p hp
          rw [hPS2] at hp
          rcases List.mem_append.1 hp with hp | hp
          ·exact hok.near p hp
          ·obtain rfl := List.mem_singleton.1 hp
           exact HAN.out
         ·rw [hPS2, List.getElem?_append_left (List.getElem?_eq_some_iff.1 HX.out.2.2.2.2.1).1]
          exact HX.out.2.2.2.2.1
         ·obtain ⟨q, hq, hq2⟩ := HX.out.2.2.2.2.2
          exact ⟨q, by rw [hWS2, List.getElem?_append_left (List.getElem?_eq_some_iff.1 hq).1]; exact hq, hq2⟩
         ·rw [← f1]
          exact Sp.out (Sp.out (Sp.arr (pre := [Res.poolG kI 2 w0.heap.size WS2, srBlk gs Ao2 PS2.length co2 AA15 WS2.length cA15 false, posR w0.heap.size Ao2 co2 PS2, Res.poolG kC 94 w0.heap.size PS2, Res.blk ga #[.slice Ap parts.length cp] 26, wayR w0.heap.size AA15 cA15 WS2, Res.row kI 2 w0.heap.size (.slice (some adm) ms.length cm) ms]) (pre' := [Res.blk ga #[.slice Ap parts.length cp] 26, srBlk gs Ao2 PS2.length co2 AA15 WS2.length cA15 false, posR w0.heap.size Ao2 co2 PS2, Res.poolG kC 94 w0.heap.size PS2, wayR w0.heap.size AA15 cA15 WS2, Res.poolG kI 2 w0.heap.size WS2, Res.row kI 2 w0.heap.size (.slice (some adm) ms.length cm) ms]) (rest := _ :: _ :: rest) [4, 1, 2, 3, 5, 0, 6] h2 rfl rfl) 8) 7
      ·refine Kd.R_lit_step kI _ 2 ?hg (N := 87) ?hd (xs := ([m] : List Int)) (inner := [.int .i64 m]) (ok := fun _ => True) (okp := fun _ => True) ?hr ?hp (fun _ hk => hk) trivial (Below.refl _ _) (Nat.le_refl _) (by simp) ?_
       (case hd => rfl)
       (case hg => rfl)
       (case hr => first | (go_simp; done) | (go_simp; rfl))
       (case hp => exact (Reps.one rfl (Reps.none _ _)))
       intro vA11 wA11 ho hb hg_ hnew_
       clear hg_ hnew_
       replace HS := A0_ (Sp.made' HS.out hb ho)
       clear hb ho
       obtain ⟨AA11, cA11, eA_⟩ := Sp.slice HS.out (i := 0) rfl
       subst eA_
       refine hK.out _ _ (⟨(cl_ HS 1 1 rfl).trans rfl, (HMJ.out ▸ Sp.intCell HS.out (i := 7) rfl j HJL.out)⟩) (fun hHeld => ?_)
       clear hK K
       refine nm_ (some 87) ?_
       refine o1_ 11 (some 81) (fun K hK => ?_)
       have hxw_ := Sp.slCell HS.out (i := 5) rfl k HKW.out
       rw [HGD.out] at hxw_
       refine event_step (v := .slice Ak wk.length ck) (w1 := wA11) (by rfl) (by first | (go_simp; done) | (go_simp; rfl)) ?_
       clear hxw_
       refine hK.out _ _ (⟨(cl_ HS 1 1 rfl).trans rfl, (HMJ.out ▸ Sp.intCell HS.out (i := 7) rfl j HJL.out)⟩) (fun hHeld => ?_)
       clear hK K
       refine nm_ (some 81) ?_
       refine o1_ 12 (some 82) (fun K hK => ?_)
       refine gs_ Try.func113 #[.slice Ak wk.length ck] ?_
       refine (spec_l01Own.calls Ak ck wk wk _ (Sp.poolGC HS.out (i := 6) rfl HWM.out).2.2 HWC.out HOW.out).mono ?_
       rintro e wA12 ⟨vA12, rfl, ho, hb⟩
       refine ⟨_, rfl, ?_⟩
       replace HS := A0_ (Sp.made' HS.out hb ho)
       clear hb ho
       obtain ⟨AA12, cA12, rfl⟩ := Sp.slice HS.out (i := 0) rfl
       refine hK.out _ _ (⟨(cl_ HS 2 1 rfl).trans rfl, (HMJ.out ▸ Sp.intCell HS.out (i := 8) rfl j HJL.out)⟩) (fun hHeld => ?_)
       clear hK K
       refine nm_ (some 82) ?_
       refine o1_ 18 (some 88) (fun K hK => ?_)
       obtain ⟨fp_, ho_, hf_, hc_⟩ := Sp.row HS.out (i := 0) rfl
       refine Kd.R_append_rows_step kI w0.heap.size (by rfl) (.tmp 82) (.tmp 87) 28 2 (.int .i64 0) 8 rfl Try.underlying28 info2 rfl (by decide) (by omega) _ (wk) ([m] : List Int) _ _ _ _ (fun _ => False) rfl rfl ho_ (Sp.reads HS.out (i := 1) rfl).2.2 (fun _ _ h => h) (fun _ h => h.elim) (fun _ h => .inr h) HS.out.below HS.out.below.size ?aL ?_
       (case aL => have := HWL.out; simp only [List.length_cons, List.length_nil]; omega)
       intro vA13 wA13 ho hb hg hat
       replace HS := A0_ (hc_ _ _ _ ho hg)
       clear ho hb hg hat ho_ hf_ hc_ fp_
       obtain ⟨AA13, cA13, eA_⟩ := Sp.slice HS.out (i := 0) rfl
       subst eA_
       refine hK.out _ _ (⟨(cl_ HS 2 1 rfl).trans rfl, (HMJ.out ▸ Sp.intCell HS.out (i := 8) rfl j HJL.out)⟩) (fun hHeld => ?_)
       clear hK K
       refine nm_ (some 88) ?_
       refine o1_ 19 (some 89) (fun K hK => ?_)
       refine Kd.R_lit_step kSl _ 28 ?hg (N := 89) ?hd (xs := ([(AA13, (wk ++ [m]).length, cA13)] : List Sl)) (inner := [.slice AA13 (wk ++ [m]).length cA13]) (ok := fun _ => True) (okp := fun _ => True) ?hr ?hp (fun _ hk => hk) trivial (Below.refl _ _) (Nat.le_refl _) (by simp) ?_
       (case hd => rfl)
       (case hg => rfl)
       (case hr => first | (go_simp; done) | (go_simp; rfl))
       (case hp => exact (Reps.one rfl (Reps.none _ _)))
       intro vA14 wA14 ho hb hg_ hnew_
       clear hg_ hnew_
       replace HS := A0_ (Sp.made' HS.out hb ho)
       clear hb ho
       obtain ⟨AA14, cA14, eA_⟩ := Sp.slice HS.out (i := 0) rfl
       subst eA_
       refine hK.out _ _ (⟨(cl_ HS 3 1 rfl).trans rfl, (HMJ.out ▸ Sp.intCell HS.out (i := 9) rfl j HJL.out)⟩) (fun hHeld => ?_)
       clear hK K
       refine nm_ (some 89) ?_
       refine o1_ 20 (some 90) (fun K hK => ?_)
       obtain ⟨fp_, ho_, hf_, hc_⟩ := Sp.row HS.out (i := 7) rfl
       refine Kd.R_append_rows_step kSl w0.heap.size (by rfl) (.tmp 74) (.tmp 89) 87 28 (.slice none 0 0) 24 rfl Try.underlying87 info28 rfl (by decide) (by omega) _ (WS.map Prod.fst) ([(AA13, (wk ++ [m]).length, cA13)] : List Sl) _ _ _ _ (fun _ => False) rfl rfl ho_ (Sp.reads HS.out (i := 0) rfl).2.2 (fun _ _ h => h) (fun _ h => h.elim) (fun _ h => .inr h) HS.out.below HS.out.below.size ?aL ?_
       (case aL => have h1_ := HX.out.2.2.2.1.top; have h2_ := HX.out.2.2.2.1.len; simp only [List.length_cons, List.length_nil, List.length_map]; omega)
       intro vA15 wA15 ho hb hg hat
       replace HS := A0_ (hc_ _ _ _ ho hg)
       clear ho hb hg hat ho_ hf_ hc_ fp_
       obtain ⟨AA15, cA15, eA_⟩ := Sp.slice HS.out (i := 7) rfl
       subst eA_
       refine hK.out _ _ (⟨(cl_ HS 3 1 rfl).trans rfl, (HMJ.out ▸ Sp.intCell HS.out (i := 9) rfl j HJL.out)⟩) (fun hHeld => ?_)
       clear hK K
       refine nm_ (some 90) ?_
       refine on_ 21 (some 91) ?_
       refine on_ 22 (some 92) ?_
       refine ol_ 23 none (fun K hK => ?_)
       have hlw_ : (WS.map Prod.fst ++ [((AA13, (wk ++ [m]).length, cA13) : Sl)]).length = WS.length + 1 := by rw [List.length_append, List.length_map]; rfl
       have hz_ := blk_frozen (Sp.blk HS.out (i := 3) rfl).1 1
       have hy_ : wA15.cell? ⟨gs, 1, none⟩ = some (.slice (some adw) WS.length cw) := (cl_ HS 3 1 rfl).trans rfl
       refine skip_ (w1 := wA15.setCell ⟨gs, 1, none⟩ (.slice AA15 (WS.length + 1) cA15)) (by rfl) rfl (by first | (go_simp; done) | (go_simp; rfl)) ?_
       replace HS := A0_ (Sp.set HS.out 3 rfl 1 (.slice AA15 (WS.length + 1) cA15) (blk_put (cs' := #[.slice Ao2 (PS.length + 1) co2, .slice AA15 (WS.length + 1) cA15, .bool false]) (Sp.blk HS.out (i := 3) rfl).1 1 _ rfl))
       clear hz_ hy_
       refine hK.out _ _ ?_
       clear hK K
       refine dn_ ?_
       replace HS := A0_ (Sp.arr (pre := [Res.row kSl 28 w0.heap.size (.slice AA14 (([(AA13, (wk ++ [m]).length, cA13)] : List Sl)).length cA14) (([(AA13, (wk ++ [m]).length, cA13)] : List Sl)), Res.row kI 2 w0.heap.size (.slice AA13 ((wk) ++ ([m] : List Int)).length cA13) ((wk) ++ ([m] : List Int)), Res.row kI 2 w0.heap.size (.slice AA11 (([m] : List Int)).length cA11) (([m] : List Int)), Res.blk gs #[.slice Ao2 (PS.length + 1) co2, .slice AA15 (WS.length + 1) cA15, .bool false] 89, Res.row kSl 35 w0.heap.size (.slice Ao2 (PS.length + 1) co2) (PS.map Prod.fst ++ [((Ad, nx.length, cd) : Sl)]), Res.poolG kC 94 w0.heap.size (PS ++ [(((Ad, nx.length, cd) : Sl), nx)]), Res.blk ga #[.slice Ap parts.length cp] 26, Res.row kSl 28 w0.heap.size (.slice AA15 ((WS.map Prod.fst) ++ ([(AA13, (wk ++ [m]).length, cA13)] : List Sl)).length cA15) ((WS.map Prod.fst) ++ ([(AA13, (wk ++ [m]).length, cA13)] : List Sl)), Res.poolG kI 2 w0.heap.size WS, Res.row kI 2 w0.heap.size (.slice (some adm) ms.length cm) ms]) (pre' := [Res.row kI 2 w0.heap.size (.slice AA13 ((wk) ++ ([m] : List Int)).length cA13) ((wk) ++ ([m] : List Int)), Res.poolG kI 2 w0.heap.size WS, Res.blk gs #[.slice Ao2 (PS.length + 1) co2, .slice AA15 (WS.length + 1) cA15, .bool false] 89, Res.row kSl 35 w0.heap.size (.slice Ao2 (PS.length + 1) co2) (PS.map Prod.fst ++ [((Ad, nx.length, cd) : Sl)]), Res.poolG kC 94 w0.heap.size (PS ++ [(((Ad, nx.length, cd) : Sl), nx)]), Res.blk ga #[.slice Ap parts.length cp] 26, Res.row kSl 28 w0.heap.size (.slice AA15 ((WS.map Prod.fst) ++ ([(AA13, (wk ++ [m]).length, cA13)] : List Sl)).length cA15) ((WS.map Prod.fst) ++ ([(AA13, (wk ++ [m]).length, cA13)] : List Sl)), Res.row kI 2 w0.heap.size (.slice (some adm) ms.length cm) ms, Res.row kSl 28 w0.heap.size (.slice AA14 (([(AA13, (wk ++ [m]).length, cA13)] : List Sl)).length cA14) (([(AA13, (wk ++ [m]).length, cA13)] : List Sl)), Res.row kI 2 w0.heap.size (.slice AA11 (([m] : List Int)).length cA11) (([m] : List Int))]) (rest := rest) [1, 8, 3, 4, 5, 6, 7, 9, 0, 2] HS.out rfl rfl)
       try go_wp2
       go_roundg k1
       case measure => omega
       case rel =>
        rw [HWJ.out]
        obtain ⟨PS2, hPS2⟩ : ∃ PS2, PS2 = PS ++ [(((Ad, nx.length, cd) : Sl), nx)] := ⟨_, rfl⟩
        obtain ⟨WS2, hWS2⟩ : ∃ WS2, WS2 = WS ++ [(((AA13, (wk ++ [m]).length, cA13) : Sl), wk ++ [m])] := ⟨_, rfl⟩
        have e1 : PS2.length = PS.length + 1 := by rw [hPS2, List.length_append]; rfl
        have e2 : PS2.map Prod.fst = PS.map Prod.fst ++ [((Ad, nx.length, cd) : Sl)] := by rw [hPS2, List.map_append]; rfl
        have e3 : PS2.map Prod.snd = PS.map Prod.snd ++ [nx] := by rw [hPS2, List.map_append]; rfl
        have f1 : WS2.length = WS.length + 1 := by rw [hWS2, List.length_append]; rfl
        have f2 : WS2.map Prod.fst = WS.map Prod.fst ++ [((AA13, (wk ++ [m]).length, cA13) : Sl)] := by rw [hWS2, List.map_append]; rfl
        have f3 : (WS.map Prod.fst ++ [((AA13, (wk ++ [m]).length, cA13) : Sl)]).length = WS.length + 1 := by rw [List.length_append, List.length_map]; rfl
        have h := HS.out
        rw [f3] at h
        have h2 := Sp.poolGAdd h
        rw [← hWS2, ← hPS2, ← e1, ← e2, ← f1, ← f2] at h2
        have hok := HX.out.2.2.2.1
        refine ⟨j + 1, Ao2, co2, AA15, cA15, PS2, WS2, rfl, ⟨by have := of_decide_eq_true cj0; omega, by have := HX.out; omega, by rw [HFN.out, hPS2, hWS2, ndW_add hok.len], ⟨by rw [e1, f1, hok.len], ?_, ?_, ?_, ?_⟩, ?_, ?_⟩, ⟨?_⟩⟩
        ·have h1 := hok.top
         have h3 := HFULL.out
         omega
        ·intro p hp
         rw [hPS2] at hp
         rcases List.mem_append.1 hp with hp | hp
         ·exact hok.pos p hp
         ·obtain rfl := List.mem_singleton.1 hp
          exact HNL.out
        ·intro i p hp
         rw [hWS2] at hp
         by_cases c : i < WS.length
         ·rw [List.getElem?_append_left c] at hp
          exact hok.way i p hp
         ·rw [List.getElem?_append_right (by omega)] at hp
          have hi : i - WS.length = 0 := by
           by_cases c2 : i - WS.length = 0
           ·exact c2
           ·rw [List.getElem?_eq_none (by simp; omega)] at hp
            cases hp
          rw [hi] at hp
          obtain rfl := Option.some.inj hp
          show (wk ++ [m]).length ≤ i
          have h1 := HWK.out
          have h3 := HKW.out
          rw [List.length_append, List.length_singleton]
          omega
        ·intro p hp
         rw [hPS2] at hp
         rcases List.mem_append.1 hp with hp | hp
         ·exact hok.near p hp
         ·obtain rfl := List.mem_singleton.1 hp
          exact HAN.out
        ·rw [hPS2, List.getElem?_append_left (List.getElem?_eq_some_iff.1 HX.out.2.2.2.2.1).1]
         exact HX.out.2.2.2.2.1
        ·obtain ⟨q, hq, hq2⟩ := HX.out.2.2.2.2.2
         exact ⟨q, by rw [hWS2, List.getElem?_append_left (List.getElem?_eq_some_iff.1 hq).1]; exact hq, hq2⟩
        ·rw [← f1]
         exact Sp.out (Sp.out (Sp.arr (pre := [Res.poolG kI 2 w0.heap.size WS2, srBlk gs Ao2 PS2.length co2 AA15 WS2.length cA15 false, posR w0.heap.size Ao2 co2 PS2, Res.poolG kC 94 w0.heap.size PS2, Res.blk ga #[.slice Ap parts.length cp] 26, wayR w0.heap.size AA15 cA15 WS2, Res.row kI 2 w0.heap.size (.slice (some adm) ms.length cm) ms]) (pre' := [Res.blk ga #[.slice Ap parts.length cp] 26, srBlk gs Ao2 PS2.length co2 AA15 WS2.length cA15 false, posR w0.heap.size Ao2 co2 PS2, Res.poolG kC 94 w0.heap.size PS2, wayR w0.heap.size AA15 cA15 WS2, Res.poolG kI 2 w0.heap.size WS2, Res.row kI 2 w0.heap.size (.slice (some adm) ms.length cm) ms]) (rest := _ :: _ :: rest) [4, 1, 2, 3, 5, 0, 6] h2 rfl rfl) 8) 7
  ·have cj0 : decide (j < ms.length) = false := decide_eq_false cj
   have HFIN := A0_ (show ms.foldlM (visitW o wy) S0 = some (ndW PS WS) by
    have h := HX.out.2.2.1
    rw [List.take_of_length_le (by omega)] at h
    exact h)
   clear cj
   go_wp2
   go_end0
   refine ⟨rfl, ?_⟩
   rw [HFIN.out]
   exact ⟨Ao, co, Aw, cw, PS, WS, HX.out.2.2.2.1, rfl, Sp.out (Sp.out HS.out 6) 0⟩
def stepO (o d : Cb) : Nat → Cb
 | 0 => o
 | n + 1 => addC (stepO o d n) d
def leavesP (parts : List (List Cb)) (offs : List Cb) (p d : Int) : Bool := (List.range 40).all fun j => aloneP parts offs p (stepO (oAt offs p.toNat) (vecP d) (j + 1))
def freeK (parts : List (List Cb)) (offs : List Cb) (m : Nat) : List Int := ((List.range m).filter fun k : Nat => leavesP parts offs ((k / 6 : Nat) : Int) ((k % 6 : Nat) : Int)).map fun (k : Nat) => (k : Int)
def freeP (parts : List (List Cb)) (offs : List Cb) : List Int := freeK parts offs (6 * parts.length)
theorem freeK_succ (parts : List (List Cb)) (offs : List Cb) (m : Nat) : freeK parts offs (m + 1) = freeK parts offs m ++ (if leavesP parts offs ((m / 6 : Nat) : Int) ((m % 6 : Nat) : Int) = true then [(m : Int)] else []) := by
 unfold freeK
 rw [List.range_succ, List.filter_append, List.map_append]
 congr 1
 by_cases c : leavesP parts offs ((m / 6 : Nat) : Int) ((m % 6 : Nat) : Int) = true
 ·rw [if_pos c, List.filter_cons_of_pos (by exact c)]; rfl
 ·rw [if_neg c, List.filter_cons_of_neg (by exact c)]; rfl
theorem freeK_len (parts : List (List Cb)) (offs : List Cb) (m : Nat) : (freeK parts offs m).length ≤ m := by
 unfold freeK
 rw [List.length_map]
 refine Nat.le_trans (List.length_filter_le _ _) ?_
 rw [List.length_range]
 exact Nat.le_refl _
theorem freeK_mem {parts : List (List Cb)} {offs : List Cb} {m : Nat} {x : Int} (h : x ∈ freeK parts offs m) : ∃ k : Nat, k < m ∧ x = (k : Int) ∧ leavesP parts offs ((k / 6 : Nat) : Int) ((k % 6 : Nat) : Int) = true := by
 unfold freeK at h
 rw [List.mem_map] at h
 obtain ⟨k, hk, rfl⟩ := h
 rw [List.mem_filter] at hk
 exact ⟨k, List.mem_range.1 hk.1, rfl, hk.2⟩
def searchW (parts : List (List Cb)) (ex : List Cb → Bool) : Nat → List (List Cb × List Int) → Nat → Option (List (List Cb × List Int) × Int)
 | 0, S, _ => some (S, -1)
 | f + 1, S, k => if k < S.length then (if ex (S.getD k default).1 = true then some (S, (k : Int)) else ((movesP parts (S.getD k default).1).foldlM (visitW (S.getD k default).1 (S.getD k default).2) S).bind (fun S' => searchW parts ex f S' (k + 1))) else some (S, -1)
theorem visitW_le {o : List Cb} {wy : List Int} {S S' : List (List Cb × List Int)} {m : Int} (h : visitW o wy S m = some S') : S.length ≤ S'.length := by
 unfold visitW at h
 split at h
 ·injection h with h; subst h; exact Nat.le_refl _
 ·split at h
  ·injection h with h; subst h; exact Nat.le_refl _
  ·split at h
   ·cases h
   ·injection h with h; subst h; rw [List.length_append]; omega
theorem spreadW_le {o : List Cb} {wy : List Int} : ∀ (ms : List Int) {S S' : List (List Cb × List Int)}, ms.foldlM (visitW o wy) S = some S' → S.length ≤ S'.length
 | [], S, S', h => by
  have : S = S' := Option.some.inj h
  subst this
  exact Nat.le_refl _
 | m :: ms, S, S', h => by
  rw [List.foldlM_cons] at h
  obtain ⟨T, h1, h2⟩ := Option.bind_eq_some_iff.1 h
  exact Nat.le_trans (visitW_le h1) (spreadW_le ms h2)
theorem wrap_assoc (a b c : Int) : wrap64 (wrap64 (a + b) + c) = wrap64 (a + wrap64 (b + c)) := by unfold wrap64; omega
theorem addC_assoc (a b c : Cb) : addC (addC a b) c = addC a (addC b c) := by
 unfold addC
 dsimp only
 rw [wrap_assoc, wrap_assoc, wrap_assoc]
theorem vec_small (d : Int) (hd : 0 ≤ d ∧ d < 6) : inCb (vecP d) (-1) 1 = true := by
 obtain h | h | h | h | h | h : d = 0 ∨ d = 1 ∨ d = 2 ∨ d = 3 ∨ d = 4 ∨ d = 5 := by omega
 all_goals subst h; rfl
theorem step_small (o v : Cb) (ho : inCb o (-12) 12 = true) (hv : inCb v (-1) 1 = true) : ∀ n : Nat, n ≤ 40 → inCb (stepO o v n) (-(12 + (n : Int))) (12 + (n : Int)) = true
 | 0, _ => by simpa [stepO] using ho
 | n + 1, hn => by
  have ih := step_small o v ho hv n (by omega)
  have h1 := inCb_mono ih (show (-200 : Int) ≤ -(12 + (n : Int)) by omega) (show 12 + (n : Int) ≤ 200 by omega)
  have h2 := inCb_mono hv (show (-200 : Int) ≤ -1 by omega) (show (1 : Int) ≤ 200 by omega)
  show inCb (addC (stepO o v n) v) _ _ = true
  rw [addC_small h1 h2]
  rw [inCb_iff] at ih hv ⊢
  dsimp only
  omega
def LvOk (parts : List (List Cb)) (offs : List Cb) (p d : Int) : Prop := (offs.length = parts.length ∧ parts.length ≤ 8) ∧ (∀ q ∈ parts, q.length ≤ 1048576) ∧ (∀ q ∈ parts, ∀ c ∈ q, inCb c 0 7 = true) ∧ (∀ c ∈ offs, inCb c (-12) 12 = true) ∧ (0 ≤ p ∧ p < (parts.length : Int)) ∧ 0 ≤ d ∧ d < 6
instance decLvOk (parts : List (List Cb)) (offs : List Cb) (p d : Int) : Decidable (LvOk parts offs p d) := by unfold LvOk; exact inferInstance
theorem move_step (P : List Cb) (o v : Cb) (j : Nat) : ((P.map fun c => addC c (stepO o v j)).map fun c => addC c v) = P.map fun c => addC c (stepO o v (j + 1)) := by
 rw [List.map_map]
 exact List.map_congr_left fun c _ => addC_assoc c (stepO o v j) v
theorem oAt_mem (offs : List Cb) (j : Nat) (hj : j < offs.length) : oAt offs j ∈ offs := by
 have e : oAt offs j = offs[j] := by simp [oAt, List.getD_eq_getElem?_getD, hj]
 rw [e]
 exact List.getElem_mem hj
theorem leave_pair (parts : List (List Cb)) (offs : List Cb) (p i : Nat) (hp : p < parts.length) (hi : i < parts.length) (hl : offs.length = parts.length) (hc : ∀ q ∈ parts, ∀ c ∈ q, inCb c 0 7 = true) (ho : ∀ c ∈ offs, inCb c (-12) 12 = true) (v : Cb) (hv : inCb v (-1) 1 = true) (j : Nat) (hj : j ≤ 40) :
  (((partAt parts (p : Int)).map fun c => addC c (stepO (oAt offs p) v j)).any fun c => ((partAt parts (i : Int)).map fun c => addC c (oAt offs i)).contains c) = touchP parts i p (subC (stepO (oAt offs p) v j) (oAt offs i)) := by
 have hm : ∀ i : Nat, i < parts.length → partAt parts (i : Int) ∈ parts := fun i hi => by
  have : partAt parts (i : Int) = parts[i] := by unfold partAt; simp [hi]
  rw [this]; exact List.getElem_mem _
 exact pair_wide _ _ _ _ (hc _ (hm p hp)) (hc _ (hm i hi)) (inCb_mono (step_small _ v (ho _ (oAt_mem offs p (by omega))) hv j hj) (by omega) (by omega)) (inCb_mono (ho _ (oAt_mem offs i (by omega))) (by omega) (by omega))
def spec_l27Leaves.f (k : Nat) (l : List (List Cb)) (offs : List Cb) (p d : Int) : Option Bool := if LvOk l offs p d then some (leavesP l offs p d) else none
theorem move_at' (l : List Cb) (d : Cb) (h : l.length ≤ 1048576) : ∃ K m, m = (l.map fun c => addC c d) ∧ m.length = l.length ∧ spec_l09Move.f K l d.f0 d.f1 d.f2 = some m := by
 (obtain ⟨K, hK⟩ := (smove_ev l d h).rounds); (exact ⟨K, _, rfl, List.length_map _, hK⟩)
def slvF.T1 : Bool × List (List Nat × List Nat) := (true, [([], []), ([0], [0]), ([], []), ([1, 2], [1, 2]), ([3], [3]), ([], []), ([], []), ([5, 6], [5, 6]), ([7], [7]), ([4, 8], [4, 8]), ([9, 9, 0, 1, 2, 3, 4, 5, 6, 7, 8, 9], [9])])
def slvF.B1 : List Nat := [0, 1, 0, 7, 15, 0, 0, 96, 224, 511, 1023]
theorem slvF.tab1 : rtab .any (opsOf Try.f65 1) = slvF.T1 := by kernel_rfl
theorem slvF.bits1 : waitsOk slvF.T1.2 slvF.B1 = true := by kernel_rfl
def slvF.T9 : Bool × List (List Nat × List Nat) := (true, [([], []), ([], []), ([0, 1], [0, 1]), ([2], [2]), ([3], [3]), ([3], [3]), ([5, 3], [3, 5]), ([3], [3]), ([6, 7, 3], [3, 6, 7]), ([8, 3], [3, 8]), ([3], [3]), ([3], [3]), ([10, 11, 3], [3, 10, 11]), ([12, 3], [3, 12]), ([9, 13, 3, 3], [3, 9, 13]), ([4, 14, 14, 3], [3, 4, 14]), ([3, 15], [3, 15])])
def slvF.B9 : List Nat := [0, 0, 3, 7, 15, 15, 47, 15, 239, 495, 15, 15, 3087, 7183, 16367, 32767, 65535]
theorem slvF.tab9 : rtab .any (opsOf Try.f65 9) = slvF.T9 := by kernel_rfl
theorem slvF.bits9 : waitsOk slvF.T9.2 slvF.B9 = true := by kernel_rfl
set_option maxHeartbeats 4000000 in
set_option maxRecDepth 100000 in
theorem spec_l27Leaves.calls (k : Nat) (A0_0 : Option Addr) (c0_0 : Nat) (l0_0 : List (List Cb)) (A1 : Option Addr) (c1 : Nat) (l1 : List Cb) (a2 a3 : Int) (r : Bool) (w : World) (hr0_0 : Kd.C (Kd.slice 94 k94) w A0_0 l0_0.length l0_0) (hc0_0 : l0_0.length ≤ c0_0) (hr1 : Kd.C k94 w A1 l1.length l1) (hc1 : l1.length ≤ c1) (h : spec_l27Leaves.f k l0_0 l1 a2 a3 = some r) :
    Calls Try.prog 65 #[.agg #[.slice A0_0 l0_0.length c0_0], .slice A1 l1.length c1, .int .i64 a2, .int .i64 a3] w fun e w' => e = .returned (.bool r) ∧ Below w.heap.size w w' := by
 (have hu32 := Try.underlying26); (have hu69 := Try.underlying94); (unfold spec_l27Leaves.f at h); (split at h)
 case isFalse => cases h
 (rename_i hz); (obtain ⟨⟨hl, h8⟩, hsz, hcb, hob, ⟨hp0, hp1⟩, hd⟩ := hz); (obtain ⟨p, rfl⟩ : ∃ p : Nat, a2 = (p : Int) := ⟨a2.toNat, by omega⟩); (have hpl : p < l0_0.length := by omega); (obtain rfl := Option.some.inj h); (have HR0 := A0_ hr0_0); (have HR1 := A0_ hr1); (have HLN := A0_ hl); (have H8 := A0_ h8); (have HSZ := A0_ hsz); (have HP := A0_ hpl); (have HS := A0_ (Sp.start w)); (have HVE := A0_ (vec_eq a3 hd))
 have hlp0 := fun (v : Cb) (hv : inCb v (-1) 1 = true) (i : Nat) (hi : i < l0_0.length) (j : Nat) (hj : j ≤ 40) => leave_pair l0_0 l1 p i hpl hi hl hcb hob v hv j hj
 (have hvs := vec_small a3 hd)
 have hle : leavesP l0_0 l1 p a3 = (List.range 40).all fun j => aloneP l0_0 l1 p (stepO (oAt l1 p) (vecP a3) (j + 1)) := rfl
 (have hplen := hsz _ (pAt_mem l0_0 p hpl)); (have q0 : (0 ≤ (p : Int)) = True := eq_true (by omega)); (have q1 : ((p : Int) < (l0_0.length : Int)) = True := eq_true (by omega)); (have q2 : (p < l0_0.length) = True := eq_true hpl); (have q3 : ((p : Int) < (l1.length : Int)) = True := eq_true (by omega)); (have q4 : (p < l1.length) = True := eq_true (by omega)); (obtain ⟨adp, Ai, ci_, e, hy0, hy1, hy2⟩ := at_L3 hr0_0 (p : Int) (by omega) (by omega)); subst e; (rw [show rd_L3 l0_0 (p : Int) = pAt l0_0 p from rfl] at hy0 hy1 hy2); (rw [Int.toNat_natCast] at hy0); (obtain ⟨ado, e, hx0, hx1, hx2⟩ := at_T94 hr1 (p : Int) (by omega) (by omega)); subst e; (rw [show rd_T94 l1 (p : Int) = oAt l1 p from rfl] at hx0 hx1 hx2); (rw [Int.toNat_natCast] at hx0 hx1 hx2); (obtain ⟨v, hv⟩ : ∃ v, v = vecP a3 := ⟨_, rfl⟩); (rw [← hv] at hvs hle HVE); (have hlp := hlp0 v hvs); clear hlp0; (obtain ⟨P, hP⟩ : ∃ P, P = pAt l0_0 p := ⟨_, rfl⟩)
 change ∀ i, i < l0_0.length → ∀ j, j ≤ 40 → (((pAt l0_0 p).map fun c => addC c (stepO (oAt l1 p) v j)).any fun c => ((pAt l0_0 i).map fun c => addC c (oAt l1 i)).contains c) = touchP l0_0 i p (subC (stepO (oAt l1 p) v j) (oAt l1 i)) at hlp
 (rw [← hP] at hlp hy0 hy1 hy2 hplen); (obtain ⟨o, ho⟩ : ∃ o, o = oAt l1 p := ⟨_, rfl⟩); (rw [← ho] at hlp hle hx0 hx1 hx2); (obtain ⟨R, hR⟩ : ∃ R, R = leavesP l0_0 l1 p a3 := ⟨_, rfl⟩); (rw [← hR] at hle ⊢); (have HLP := A0_ hlp); (have HLE := A0_ hle); (have HPL := A0_ hplen); (have HP0 := A0_ hy0); (have HP1 := A0_ hy1); (have HP2 := A0_ hy2); (have HO0 := A0_ hx0); (have HO1 := A0_ hx1); (have HO2 := A0_ hx2); (obtain ⟨K0, m0, hm0, hl0, hK0⟩ := move_at' P o hplen); (have HK0 := A0_ hK0); (have HM0 := A0_ hm0); clear hr0_0 hr1 hl h8 hsz hcb hob hp0 hp1 hd hpl h hlp hvs hle hplen hv hP ho hR hx0 hx1 hx2 hy0 hy1 hy2 hK0 hm0 hl0; (go_enter Try.func65, Try.ntmps65)
 go_wp2_with (first
  | ((with_reducible refine gate_dst (N := 4) rfl ?_); refine be_ (N := 4) (cs := #[.slice (some adp) l0_0.length c0_0]) (t := 26) ?_; intro ga hgb_ wb_ hcb_ hbb_; replace HS := A0_ (Sp.boxed HS.out hgb_ hcb_ hbb_); clear hgb_ hcb_ hbb_))
 (replace HS := A0_ (show Sp w ([Res.blk ga #[.slice (some adp) l0_0.length c0_0] 26] ++ ([] : List Res)) wb_.drew from Sp.drew HS.out))
 refine start_ (n := 11) (S := fun w' => w'.cell? ⟨ga, 0, none⟩ = some (.slice (some adp) l0_0.length c0_0) ∧ w'.cell? (adp.add p) = some (.slice Ai P.length ci_) ∧ w'.cell? (ado.add (p * 3)) = some (.int .i64 o.f0) ∧ w'.cell? ⟨(ado.add (p * 3)).block, (ado.add (p * 3)).off + 1, none⟩ = some (.int .i64 o.f1) ∧ w'.cell? ⟨(ado.add (p * 3)).block, (ado.add (p * 3)).off + 2, none⟩ = some (.int .i64 o.f2)) (ds := []) #[ff,ff,ff,ff,ff,ff,ff,ff,ff,ff,ff] (by kernel_rfl) rfl rfl (⟨(cl_ HS 0 0 rfl).trans rfl, pw_cell_below HS.out.below HP0.out, pw_cell_below HS.out.below HO0.out, pw_cell_below HS.out.below HO1.out, pw_cell_below HS.out.below HO2.out⟩) (fun hHeld => ?_)
 refine with_tabW slvF.tab1 slvF.bits1 (fun HT_ HW_ => ?_)
 (generalize wb_.drew = wD at HS hHeld ⊢); (refine on_ 0 (some 12) ?_); (refine tk_ 1 (some 13) ?_); (refine on_ 2 (some 14) ?_); (refine on_ 3 (some 15) ?_); (refine tk_ 4 (some 16) ?_); (refine on_ 5 (some 17) ?_); (refine on_ 6 (some 18) ?_); (refine on_ 7 (some 19) ?_); (refine tk_ 8 (some 20) ?_)
 refine o1_ 9 (some 21) (fun K hK => ?_)
 (refine gs_ Try.func93 #[.slice Ai P.length ci_, .agg #[.int .i64 o.f0, .int .i64 o.f1, .int .i64 o.f2]] ?_); (refine (spec_l09Move.calls K0 Ai ci_ P o.f0 o.f1 o.f2 m0 _ (Kd.C_below HP2.out HS.out.below) HP1.out HK0.out).mono ?_); (rintro e wA11 ⟨vA11, rfl, ho, hb⟩); (refine ⟨_, rfl, ?_⟩); (replace HS := A0_ (Sp.made' HS.out hb ho)); clear hb ho; (obtain ⟨AA11, cA11, rfl⟩ := Sp.slice HS.out (i := 0) rfl)
 refine hK.out _ _ (⟨(cl_ HS 1 0 rfl).trans rfl, pw_cell_below HS.out.below HP0.out, pw_cell_below HS.out.below HO0.out, pw_cell_below HS.out.below HO1.out, pw_cell_below HS.out.below HO2.out⟩) (fun hHeld => ?_)
 clear hK K; (refine nm_ (some 21) ?_); (refine on_ 10 (some 9) ?_); (refine dn_ ?_); go_wp2
 go_loopg [9, 10] 41 (fun kq v9 v10 w' => ∃ (j : Nat) (M : List Cb) (Am : Option Addr) (cm : Nat), v10 = .int .i64 (j : Int) ∧ v9 = .slice Am M.length cm ∧ Aside0 (j ≤ 40 ∧ kq + j = 41 ∧ M = (P.map fun c => addC c (stepO o v j)) ∧ (List.range j).all (fun j => aloneP l0_0 l1 p (stepO o v (j + 1))) = true) ∧ Aside0 (Sp w [Res.row k94 94 w.heap.size (.slice Am M.length cm) M, Res.blk ga #[.slice (some adp) l0_0.length c0_0] 26] w'))
 case atStart => exact ⟨0, m0, AA11, cA11, rfl, rfl, ⟨by omega, by omega, HM0.out, rfl⟩, HS⟩
 case round =>
  clear HS; (obtain ⟨j, M0, Am0, cm0, rfl, rfl, HX, HS⟩ := hrel); (obtain ⟨k1, rfl⟩ : ∃ k1, gk = k1 + 1 := ⟨gk - 1, by have := HX.out; omega⟩); (by_cases cj : j < 40)
  ·(have cj0 : decide (j < 40) = true := decide_eq_true cj); (have cj1 : (j < 40) = True := eq_true cj); (have cj2 : decide ((j : Int) < 40) = true := decide_eq_true (by omega)); (have cj3 : ((j : Int) < 40) = True := eq_true (by omega)); (have HW := A0_ (wrap_succ j (by omega)))
   have HNX := A0_ (range_next (fun j => aloneP l0_0 l1 p (stepO o v (j + 1))) j HX.out.2.2.2)
   have HNO := A0_ (fun h => HLE.out.trans (range_no (fun j => aloneP l0_0 l1 p (stepO o v (j + 1))) 40 j cj h))
   have HLJ := A0_ (fun i hi => HLP.out i hi (j + 1) (by omega))
   (obtain ⟨x, hx⟩ : ∃ x, x = stepO o v (j + 1) := ⟨_, rfl⟩); (obtain ⟨K1, M, hM, hl1, hK1⟩ := move_at' M0 v (by rw [HX.out.2.2.1, List.length_map]; exact HPL.out))
   have hM2 : M = P.map fun c => addC c (stepO o v (j + 1)) := by rw [hM, HX.out.2.2.1, move_step]
   (have HML := A0_ (show M.length ≤ 1048576 by rw [hM2, List.length_map]; exact HPL.out)); (rw [← hM2] at HLJ); (have HM2 := A0_ hM2); (rw [← hx] at HLJ); (have hnx := HNX.out); (have hno := HNO.out); (try dsimp only at hnx hno); (rw [← hx] at hnx hno); (have HNX := A0_ hnx); (have HNO := A0_ hno)
   have hal : aloneP l0_0 l1 p x = (List.range l1.length).all fun k => decide ((k : Int) = (p : Int)) || !touchP l0_0 k p (subC x (oAt l1 k)) := rfl
   (have HAL := A0_ hal); (have HK1 := A0_ hK1); (have HCJ := A0_ cj); clear cj hx hM hl1 hK1 hM2 hnx hno hal
   go_wp2_with (first
    | (go_at_call 90; refine (spec_l27Vector.calls a3 v.f0 v.f1 v.f2 _ HVE.out).mono ?_; rintro e wc_ ⟨rfl, hb_⟩; replace HS := A0_ (Sp.far HS.out hb_); clear hb_)
    | (go_at_call 93; refine (spec_l09Move.calls K1 Am0 cm0 M0 v.f0 v.f1 v.f2 M _ (Sp.reads HS.out (i := 0) rfl).2.2 (Sp.reads HS.out (i := 0) rfl).2.1 HK1.out).mono ?_; rintro e wc_ ⟨v_, rfl, ho_, hb_⟩; replace HS := A0_ (Sp.out (Sp.made' HS.out hb_ ho_) 1); obtain ⟨Am, cm, rfl⟩ := Kd.R_slice ho_; clear hb_ ho_))
   go_loopg [11] (l1.length + 1) (fun kq v11 w' => ∃ (i : Nat), v11 = .int .i64 (i : Int) ∧ Aside0 (i ≤ l1.length ∧ kq + i = l1.length + 1 ∧ (List.range i).all (fun k => decide ((k : Int) = (p : Int)) || !touchP l0_0 k p (subC x (oAt l1 k))) = true) ∧ Aside0 (Sp w [Res.row k94 94 w.heap.size (.slice Am M.length cm) M, Res.blk ga #[.slice (some adp) l0_0.length c0_0] 26] w'))
   case atStart => exact ⟨0, rfl, ⟨by omega, by omega, rfl⟩, HS⟩
   case round =>
    clear HS; (obtain ⟨i, rfl, HY, HS⟩ := hrel); (obtain ⟨k2, rfl⟩ : ∃ k2, gk = k2 + 1 := ⟨gk - 1, by have := HY.out; omega⟩); (by_cases ci : i < l1.length)
    ·(have ci0 : decide (i < l1.length) = true := decide_eq_true ci); (have ci1 : (i < l1.length) = True := eq_true ci); (have r0 : (0 ≤ (i : Int)) = True := eq_true (by omega)); (have r1 : ((i : Int) < (l0_0.length : Int)) = True := eq_true (by have := HLN.out; omega)); (have r2 : (i < l0_0.length) = True := eq_true (by have := HLN.out; omega)); (have r3 : ((i : Int) < (l1.length : Int)) = True := eq_true (by omega)); (have HWI := A0_ (wrap_succ i (by have := H8.out; have := HLN.out; omega)))
     have HNJ := A0_ (range_next (fun k : Nat => decide ((k : Int) = (p : Int)) || !touchP l0_0 k p (subC x (oAt l1 k))) i HY.out.2.2)
     have HBJ := A0_ (fun h => HAL.out.trans (range_no (fun k : Nat => decide ((k : Int) = (p : Int)) || !touchP l0_0 k p (subC x (oAt l1 k))) l1.length i ci h))
     (have HCI := A0_ ci); (replace HS := A0_ (show Sp w ([Res.row k94 94 w.heap.size (.slice Am M.length cm) M, Res.blk ga #[.slice (some adp) l0_0.length c0_0] 26] ++ ([] : List Res)) wr.drew from Sp.drew HS.out)); (by_cases hip : (i : Int) = (p : Int))
     ·(have s0 : ((i : Int) != (p : Int)) = false := by rw [bne_eq_false_iff_eq]; exact hip); (have HN := A0_ (HNJ.out (by rw [decide_eq_true hip, Bool.true_or]))); clear ci hip HNJ HBJ; go_wp2
      refine start_ (n := 17) (S := fun w' => True) (ds := []) #[ff,ff,ff,ff,ff,ff,ff,ff,ff,ff,ff,ff,ff,ff,ff,ff,ff] (by kernel_rfl) rfl rfl (trivial) (fun hHeld => ?_)
      refine with_tabW slvF.tab9 slvF.bits9 (fun HT_ HW_ => ?_)
      (generalize wr.drew = wD at HS hHeld ⊢); (refine on_ 0 (some 36) ?_); (refine on_ 1 (some 37) ?_); (refine on_ 2 (some 38) ?_); (refine on_ 3 (some 39) ?_); (refine of_ 4 (some 40) ?_); (refine of_ 5 (some 41) ?_); (refine of_ 6 (some 42) ?_); (refine of_ 7 (some 43) ?_); (refine of_ 8 (some 44) ?_); (refine of_ 9 (some 45) ?_); (refine of_ 10 (some 46) ?_); (refine of_ 11 (some 47) ?_); (refine of_ 12 (some 48) ?_); (refine of_ 13 (some 49) ?_); (refine of_ 14 (some 50) ?_); (refine of_ 15 (some 51) ?_); (refine on_ 16 (some 52) ?_); (refine dn_ ?_); go_wp2; (go_roundg k2)
      case measure => omega
      case rel =>
       (rw [HWI.out]); (exact ⟨i + 1, rfl, ⟨by have := HCI.out; omega, by have := HY.out; omega, HN.out⟩, HS⟩)
     ·(have s0 : ((i : Int) != (p : Int)) = true := by rw [bne_iff_ne]; exact hip); (have hnj := HNJ.out); (have hbj := HBJ.out); (try dsimp only at hnj hbj); (rw [decide_eq_false hip, Bool.false_or] at hnj hbj); (have hil : i < l0_0.length := by have := HLN.out; omega); (obtain ⟨ad3, Aj, cj_, e, hy0, hy1, hy2⟩ := at_L3 HR0.out (i : Int) (by omega) (by omega)); (injection e with e); subst e; (have hpl := HSZ.out _ (pAt_mem l0_0 i hil)); (have hpr := HLJ.out i hil); (rw [show rd_L3 l0_0 (i : Int) = pAt l0_0 i from rfl] at hy0 hy1 hy2); (rw [Int.toNat_natCast] at hy0); (obtain ⟨ad4, e, hx0, hx1, hx2⟩ := at_T94 HR1.out (i : Int) (by omega) (by omega)); (injection e with e); subst e; (rw [show rd_T94 l1 (i : Int) = oAt l1 i from rfl] at hx0 hx1 hx2); (rw [Int.toNat_natCast] at hx0 hx1 hx2); (obtain ⟨pj, hpj⟩ : ∃ pj, pj = pAt l0_0 i := ⟨_, rfl⟩); (rw [← hpj] at hy0 hy1 hy2 hpl hpr); (obtain ⟨oj, hoj⟩ : ∃ oj, oj = oAt l1 i := ⟨_, rfl⟩); (rw [← hoj] at hx0 hx1 hx2 hpr hnj hbj); (obtain ⟨K2, m2, hm2, hl2, hK2⟩ := move_at' pj oj hpl); (obtain ⟨K3, hK3⟩ := (smeet_ev M m2 HML.out (by rw [hl2]; exact hpl)).rounds); (rw [← hm2] at hpr); (rw [hpr] at hK3); (obtain ⟨r3, hr3⟩ : ∃ r3, r3 = touchP l0_0 (i : Int) (p : Int) (subC x oj) := ⟨_, rfl⟩); (rw [← hr3] at hK3 hnj hbj); (have HNJ := A0_ hnj); (have HBJ := A0_ hbj); (have HK2 := A0_ hK2); (have HK3 := A0_ hK3); (have HJ0 := A0_ hy0); (have HJ1 := A0_ hy1); (have HJ2 := A0_ hy2); (have HX0 := A0_ hx0); (have HX1 := A0_ hx1); (have HX2 := A0_ hx2); clear ci hip hpj hoj hx0 hx1 hx2 hy0 hy1 hy2 hK2 hK3 hm2 hl2 hpl hpr hr3 hil hnj hbj; go_wp2
      refine start_ (n := 17) (S := fun w' => w'.cell? ⟨ga, 0, none⟩ = some (.slice (some adp) l0_0.length c0_0) ∧ w'.cell? (adp.add i) = some (.slice Aj pj.length cj_) ∧ w'.cell? (ado.add (i * 3)) = some (.int .i64 oj.f0) ∧ w'.cell? ⟨(ado.add (i * 3)).block, (ado.add (i * 3)).off + 1, none⟩ = some (.int .i64 oj.f1) ∧ w'.cell? ⟨(ado.add (i * 3)).block, (ado.add (i * 3)).off + 2, none⟩ = some (.int .i64 oj.f2)) (ds := []) #[ff,ff,ff,ff,ff,ff,ff,ff,ff,ff,ff,ff,ff,ff,ff,ff,ff] (by kernel_rfl) rfl rfl (⟨(cl_ HS 1 0 rfl).trans rfl, pw_cell_below HS.out.below HJ0.out, pw_cell_below HS.out.below HX0.out, pw_cell_below HS.out.below HX1.out, pw_cell_below HS.out.below HX2.out⟩) (fun hHeld => ?_)
      refine with_tabW slvF.tab9 slvF.bits9 (fun HT_ HW_ => ?_)
      (generalize wr.drew = wD at HS hHeld ⊢); (refine on_ 0 (some 36) ?_); (refine on_ 1 (some 37) ?_); (refine on_ 2 (some 38) ?_); (refine on_ 3 (some 39) ?_); (refine on_ 4 (some 40) ?_); (refine on_ 5 (some 41) ?_); (refine tk_ 6 (some 42) ?_); (refine on_ 7 (some 43) ?_); (refine on_ 8 (some 44) ?_); (refine tk_ 9 (some 45) ?_); (refine on_ 10 (some 46) ?_); (refine on_ 11 (some 47) ?_); (refine on_ 12 (some 48) ?_); (refine tk_ 13 (some 49) ?_)
      refine o1_ 14 (some 50) (fun K hK => ?_)
      (refine gs_ Try.func93 #[.slice Aj pj.length cj_, .agg #[.int .i64 oj.f0, .int .i64 oj.f1, .int .i64 oj.f2]] ?_); (refine (spec_l09Move.calls K2 Aj cj_ pj oj.f0 oj.f1 oj.f2 m2 _ (Kd.C_below HJ2.out HS.out.below) HJ1.out HK2.out).mono ?_); (rintro e wA11 ⟨vA11, rfl, ho, hb⟩); (refine ⟨_, rfl, ?_⟩); (replace HS := A0_ (Sp.made' HS.out hb ho)); clear hb ho; (obtain ⟨AA11, cA11, rfl⟩ := Sp.slice HS.out (i := 0) rfl)
      refine hK.out _ _ (⟨(cl_ HS 2 0 rfl).trans rfl, pw_cell_below HS.out.below HJ0.out, pw_cell_below HS.out.below HX0.out, pw_cell_below HS.out.below HX1.out, pw_cell_below HS.out.below HX2.out⟩) (fun hHeld => ?_)
      clear hK K; (refine nm_ (some 50) ?_)
      refine o1_ 15 (some 51) (fun K hK => ?_)
      (refine gs_ Try.func86 #[.slice Am M.length cm, .slice AA11 (m2).length cA11] ?_); (refine (spec_l27Meet.calls K3 Am cm M AA11 cA11 m2 r3 _ (Sp.reads HS.out (i := 1) rfl).2.2 (Sp.reads HS.out (i := 1) rfl).2.1 (Sp.reads HS.out (i := 0) rfl).2.2 (Sp.reads HS.out (i := 0) rfl).2.1 HK3.out).mono ?_); (rintro e wA12 ⟨rfl, hb⟩); (refine ⟨_, rfl, ?_⟩); (replace HS := A0_ (Sp.far HS.out hb)); clear hb
      refine hK.out _ _ (⟨(cl_ HS 2 0 rfl).trans rfl, pw_cell_below HS.out.below HJ0.out, pw_cell_below HS.out.below HX0.out, pw_cell_below HS.out.below HX1.out, pw_cell_below HS.out.below HX2.out⟩) (fun hHeld => ?_)
      clear hK K; (refine nm_ (some 51) ?_); (refine on_ 16 (some 52) ?_); (refine dn_ ?_); (replace HS := A0_ (Sp.arr (pre := [Res.row k94 94 w.heap.size (.slice AA11 (m2).length cA11) (m2), Res.row k94 94 w.heap.size (.slice Am M.length cm) M, Res.blk ga #[.slice (some adp) l0_0.length c0_0] 26]) (pre' := [Res.row k94 94 w.heap.size (.slice Am M.length cm) M, Res.blk ga #[.slice (some adp) l0_0.length c0_0] 26, Res.row k94 94 w.heap.size (.slice AA11 (m2).length cA11) (m2)]) (rest := ([] : List Res)) [1, 2, 0] HS.out rfl rfl))
      cases r3 with
      | true =>
       (have HF := A0_ (HNO.out (HBJ.out rfl))); clear HNJ HBJ; go_wp2; go_ret; (exact ⟨by rw [HF.out]; rfl, HS.out.below⟩)
      | false =>
       (have HN := A0_ (HNJ.out rfl)); clear HNJ HBJ; go_wp2; (replace HS := A0_ (Sp.out HS.out 2)); (go_roundg k2)
       case measure => omega
       case rel =>
        (rw [HWI.out]); (exact ⟨i + 1, rfl, ⟨by have := HCI.out; omega, by have := HY.out; omega, HN.out⟩, HS⟩)
    ·(have ci0 : decide (i < l1.length) = false := decide_eq_false ci); (have ci1 : (i < l1.length) = False := eq_false ci); (have ci3 : ((i : Int) < (l1.length : Int)) = False := eq_false (by omega)); (have hi : i = l1.length := by have := HY.out; omega); (have HN := A0_ (HNX.out (HAL.out.trans (hi ▸ HY.out.2.2)))); clear ci hi; go_wp2; (go_roundg k1)
     case measure => omega
     case rel =>
      (rw [HW.out]); (exact ⟨j + 1, M, Am, cm, rfl, rfl, ⟨by have := HCJ.out; omega, by have := HX.out; omega, HM2.out, HN.out⟩, HS⟩)
  ·(have cj0 : decide (j < 40) = false := decide_eq_false cj); (have cj1 : (j < 40) = False := eq_false cj); (have cj2 : decide ((j : Int) < 40) = false := decide_eq_false (by omega)); (have cj3 : ((j : Int) < 40) = False := eq_false (by omega)); (have hj : j = 40 := by have := HX.out; omega); (have HF := A0_ (HLE.out.trans (hj ▸ HX.out.2.2.2))); clear cj hj; go_wp2; go_ret; (exact ⟨by rw [HF.out]; rfl, HS.out.below⟩)
section
attribute [local go_sem] max2_int min2_int max_two min_two max_three min_three max_four min_four
def spec_l27Free.l0 : Nat → List (S94) → List Int → Int → List (List (S94)) → Option (List Int)
  | 0, _, _, _, _ => none
  | k + 1, x1, x5, x6, x428000 => if x6 < (wrap64 (6 * (x428000.length : Int))) then ((spec_l27Leaves.f k x428000 x1 (wrap64 (Int.tdiv x6 6)) (Int.tmod x6 6)).bind fun t431 => (if t431 = true then (if x5.length < 17592186044416 then (spec_l27Free.l0 k x1 (x5 ++ [x6]) (wrap64 (x6 + 1)) x428000) else (none)) else (spec_l27Free.l0 k x1 x5 (wrap64 (x6 + 1)) x428000))) else (some x5)
def spec_l27Free.f (k : Nat) (l0_0 : List (List (S94))) (l1 : List (S94)) : Option (List Int) := spec_l27Free.l0 k l1 (([] : List Int)) 0 l0_0
set_option maxHeartbeats 8000000 in
set_option maxRecDepth 100000 in
theorem spec_l27Free.calls (k : Nat) (A0_0 : Option Addr) (c0_0 : Nat) (l0_0 : List (List (S94))) (A1 : Option Addr) (c1 : Nat) (l1 : List (S94)) (r : List Int) (w : World) (hr0_0 : Kd.C (Kd.slice 94 k94) w A0_0 l0_0.length l0_0) (hc0_0 : l0_0.length ≤ c0_0) (hr1 : Kd.C k94 w A1 l1.length l1) (hc1 : l1.length ≤ c1) (h : spec_l27Free.f k l0_0 l1 = some r) :
    Calls Try.prog 49 #[.agg #[.slice A0_0 l0_0.length c0_0], .slice A1 l1.length c1] w fun e w' => ∃ v0_ : Value, e = .returned (v0_) ∧ Kd.R (Kd.int .i64) 2 w' w.heap.size (fun _ => True) v0_ r ∧ Below w.heap.size w w' := by
 (have hu26 := Try.underlying26); (have HR0_0 := A0_ hr0_0); (have HC0_0 := A0_ hc0_0); clear hr0_0 hc0_0; (have HR1 := A0_ hr1); (have HC1 := A0_ hc1); clear hr1 hc1; (have HB := A0_ (Below.refl w.heap.size w)); (have H : (spec_l27Free.l0 k l1 (([] : List Int)) 0 l0_0) = some r := h); clear h; (obtain ⟨y428, hy428⟩ : ∃ y_ : List Int, y_ = (([] : List Int)) := ⟨_, rfl⟩); (replace H : (spec_l27Free.l0 k l1 y428 0 l0_0) = some r := by first | (rw [hy428]; with_reducible exact H) | (have H2_ := (Option.bind_some _ _).symm.trans H; rw [hy428]; with_reducible exact H2_) | (have H2_ := (Option.bind_some _ _).symm.trans H; with_reducible exact H2_) | with_reducible exact H | (rw [hy428]; exact H) | exact H); (have Ny428 := A0_ hy428); clear hy428; (have H' := A0_ H); clear H; (go_enter Try.func49, Try.ntmps49)
 go_wp2_with (first | ((with_reducible refine gate_dst (N := 2) rfl ?_); refine be_ (N := 2) (cs := #[.slice A0_0 l0_0.length c0_0]) (t := 26) ?_; intro gb427 hg w3 hbox hb; have n0_ := A0_ (below_step bw_ hb); have n1_ := A0_ (hbox); have n2_ := A0_ ((by rw [hg]; exact (below_size bw_) : w.heap.size ≤ gb427)); have n3_ := A0_ ((by rw [hg]; exact (below_size bw_) : w.heap.size ≤ gb427)); clear HB; have HB := n0_; have BK427 := n1_; have GW427 := n2_; have GE427 := n3_; clear n0_ n1_ n2_ n3_; clear hb hbox hg) | ((with_reducible refine gate_dst (N := 7) rfl ?_); refine Kd.R_lit (Kd.int .i64) _ 2 ?hg (N := 7) ?hd (xs := ([] : List Int)) (inner := []) (ok := fun _ => True) (okp := fun _ => True) ?hr ?hp (fun _ hk => hk) trivial (Below.refl _ _) (Nat.le_refl _) (by simp) ?_; (case hd => rfl); (case hg => rfl); (case hr => first | (go_simp; done) | (go_simp; rfl)); (case hp => exact (Reps.none _ _)); intro v429 w4 ho5 hb hg_ hnew_; clear hg_ hnew_; (first | rw [← Ny428.out] at ho5 | (simp only [Int.reduceToNat] at ho5; rw [← Ny428.out] at ho5)); have n0_ := A0_ (Kd.R_lower ho5 (below_size bx_)); have n1_ := A0_ (blk_below (g := gb427) (o := .cells #[.slice A0_0 l0_0.length c0_0] 26 (0, 0)) (bk_ BK427) hb); have n2_ := A0_ (below_step bx_ hb); clear BK427; clear HB; have HO430 := n0_; have BK427 := n1_; have HB := n2_; clear n0_ n1_ n2_; clear hb ho5))
 go_loopg [5, 6] k (fun kq v5 v6 w' => ∃ (x5_1 : List Int) (x6_1 : Int), v6 = .int .i64 x6_1 ∧ Aside0 (spec_l27Free.l0 kq l1 x5_1 x6_1 l0_0 = some r) ∧ Aside0 (kq ≤ k) ∧ Aside0 (Kd.R (Kd.int .i64) 2 w' w.heap.size (fun _ => True) v5 x5_1) ∧ Aside0 (w'.heap[gb427]? = some (.cells #[(.slice A0_0 l0_0.length c0_0)] 26 (0, 0))) ∧ Aside0 (Below w.heap.size w w'))
 case atStart => exact ⟨(y428), (0), (by first | rfl | (simp; done) | (simp [*]; done)), H', ⟨Nat.le_refl _⟩, ⟨by (with_reducible repeat (first | apply Ra_ | apply Rn_ | apply Rd_)); exact HO430.out⟩, ⟨by exact bk_ BK427⟩, ⟨by repeat (first | (with_reducible first | exact HB.out | apply ba_ | apply bn_ | apply bd_ | refine below_set ?_ GE427.out) | exact HB.out)⟩⟩
 case round =>
  clear H'; (try clear c1); (try clear p2); (try clear c4); (obtain ⟨x5_1, x6_1, rfl, HA, HK1, HO_5, BK427, HB⟩ := hrel)
  cases gk with
  | zero => exact absurd HA.out (by simp [spec_l27Free.l0])
  | succ k1 =>
   (have H := HA.out); clear HA; (simp only [spec_l27Free.l0] at H); (by_cases c6 : x6_1 < (wrap64 (6 * (l0_0.length : Int))))
   ·(rw [if_pos c6] at H); (have c6b0 : decide (x6_1 < (wrap64 (6 * (l0_0.length : Int)))) = true := decide_eq_true c6); clear c6; (replace H := Option.bind_eq_some_iff.mp H); (obtain ⟨t431, A70, H⟩ := H); (try dsimp only at H); (have A7 := A0_ A70); clear A70; (have H0_ := A0_ H); clear H; (have hcz8_0 : wr.cell? ⟨gb427, 0, none⟩ = some (.slice A0_0 l0_0.length c0_0) := (blk_cell BK427.out 0).trans rfl); (have hfz8_0 := blk_frozen BK427.out 0); (go_wp2_with (first | ((with_reducible refine gate_callee (f := 65) rfl ?_); refine gl_ (some 22) Try.func65 #[.agg #[.slice A0_0 l0_0.length c0_0], .slice A1 l1.length c1, .int .i64 (wrap64 (Int.tdiv x6_1 6)), .int .i64 (Int.tmod x6_1 6)] ?_; (with_reducible refine (spec_l27Leaves.calls k1 _ _ l0_0 _ _ l1 (wrap64 (Int.tdiv x6_1 6)) (Int.tmod x6_1 6) t431 _ ?side1 ?side2 ?side3 ?side4 A7.out).mono ?_); (case side1 => exact kc_ (Kd.C_below HR0_0.out HB.out)); (case side2 => exact HC0_0.out); (case side3 => exact kc_ (Kd.C_below HR1.out HB.out)); (case side4 => exact HC1.out); rintro e w9 ⟨rfl, hb⟩; refine ⟨_, rfl, ?_⟩; have n0_ := A0_ (Kd.R_below (by (with_reducible repeat (first | apply Ra_ | apply Rn_ | apply Rd_)); exact HO_5.out) hb); have n1_ := A0_ (blk_below (g := gb427) (o := .cells #[.slice A0_0 l0_0.length c0_0] 26 (0, 0)) (bk_ BK427) hb); have n2_ := A0_ (below_step bx_ hb); clear HO_5; clear BK427; clear HB; have HO_5 := n0_; have BK427 := n1_; have HB := n2_; clear n0_ n1_ n2_; (try clear hb); (try clear hb2); (try clear hk); (try clear hi); refine Stop0.out ?_))); (refine Stop0.mk ?_); (have H := H0_.out); clear H0_; (by_cases c10 : t431 = true)
    ·subst c10; (have H1 := H); (rw [if_pos rfl] at H1); clear H; (have H := H1); clear H1; (by_cases c11 : x5_1.length < 17592186044416)
     ·(rw [if_pos c11] at H); (have LMc11 := A0_ c11); clear c11; (obtain ⟨y432, hy432⟩ : ∃ y_ : List Int, y_ = (x5_1 ++ [x6_1]) := ⟨_, rfl⟩); (replace H : (spec_l27Free.l0 k1 l1 y432 (wrap64 (x6_1 + 1)) l0_0) = some r := by first | (rw [hy432]; with_reducible exact H) | (have H2_ := (Option.bind_some _ _).symm.trans H; rw [hy432]; with_reducible exact H2_) | (have H2_ := (Option.bind_some _ _).symm.trans H; with_reducible exact H2_) | with_reducible exact H | (rw [hy432]; exact H) | exact H); (have Ny432 := A0_ hy432); clear hy432; (have H' := A0_ H); clear H
      go_wp2_with (first | ((with_reducible refine gate_builtin (b := .append) (xs := #[.tmp 23, .tmp 25]) rfl ?_); at_builtin; refine Kd.R_append (Kd.int .i64) (w0 := w) w.heap.size rfl (.tmp 23) (.tmp 25) 28 2 (.int .i64 0) 8 rfl Try.underlying28 info2 rfl (by decide) (by omega) u5 x5_1 x6_1 [.int .i64 x6_1] (fun _ => True) (fun _ => False) rfl rfl ?aP (fun _ hk => hk.elim) ?aF ?aO ?aB ?aS ?aL ?_; (case aP => exact rfl); (case aB => exact bx_); (case aF => exact (fun _ _ => trivial)); (case aO => exact (by (with_reducible repeat (first | apply Ra_ | apply Rn_ | apply Rd_)); exact HO_5.out)); (case aS => exact (below_size bx_)); (case aL => have := LMc11.out; omega); intro v433 w12 ho hb hg hat; rw [← Ny432.out] at ho; have n0_ := A0_ (blk_grown (g := gb427) (o := .cells #[.slice A0_0 l0_0.length c0_0] 26 (0, 0)) (bk_ BK427) hg (Kd.R_ne HO_5.out BK427.out (by decide))); have n1_ := A0_ (hb); have n2_ := A0_ (ho); clear BK427; clear HB; clear HO_5; have BK427 := n0_; have HB := n1_; have HO434 := n2_; clear n0_ n1_ n2_; clear ho hb hg hat))
      (go_roundg k1)
      case measure => have := HK1.out; omega
      case rel => exact ⟨(y432), (wrap64 (x6_1 + 1)), (by first | rfl | (simp; done) | (simp [*]; done)), H', ⟨by have := HK1.out; omega⟩, ⟨by (with_reducible repeat (first | apply Ra_ | apply Rn_ | apply Rd_)); exact HO434.out⟩, ⟨by exact bk_ BK427⟩, ⟨by repeat (first | (with_reducible first | exact HB.out | apply ba_ | apply bn_ | apply bd_ | refine below_set ?_ GE427.out) | exact HB.out)⟩⟩
     ·(rw [if_neg c11] at H); (exact absurd H (by simp))
    ·(replace c10 := Bool.eq_false_iff.mpr c10); subst c10; (have H1 : (spec_l27Free.l0 k1 l1 x5_1 (wrap64 (x6_1 + 1)) l0_0) = some r := by rw [if_neg (show ¬ (false = true) by decide)] at H; exact H); clear H; (have H := H1); clear H1; (have H' := A0_ H); clear H; go_wp2; (go_roundg k1)
     case measure => have := HK1.out; omega
     case rel => exact ⟨(x5_1), (wrap64 (x6_1 + 1)), (by first | rfl | (simp; done) | (simp [*]; done)), H', ⟨by have := HK1.out; omega⟩, ⟨by (with_reducible repeat (first | apply Ra_ | apply Rn_ | apply Rd_)); exact HO_5.out⟩, ⟨by exact bk_ BK427⟩, ⟨by repeat (first | (with_reducible first | exact HB.out | apply ba_ | apply bn_ | apply bd_ | refine below_set ?_ GE427.out) | exact HB.out)⟩⟩
   ·(rw [if_neg c6] at H); (have c6b0 : decide (x6_1 < (wrap64 (6 * (l0_0.length : Int)))) = false := decide_eq_false c6); clear c6; (obtain rfl := Option.some.inj H); (have hcz13_0 : wr.cell? ⟨gb427, 0, none⟩ = some (.slice A0_0 l0_0.length c0_0) := (blk_cell BK427.out 0).trans rfl); (have hfz13_0 := blk_frozen BK427.out 0); go_wp2; go_ret; (exact ⟨_, by first | rfl | (simp [errW_none, errW_some] <;> rfl) | (simp [*, errW_none, errW_some] <;> rfl), by (with_reducible repeat (first | apply Ra_ | apply Rn_ | apply Rd_)); exact HO_5.out, bx_⟩)
end
def exB (parts : List (List Cb)) (b : Bool) (o : List Cb) : Bool := b && decide (0 < (freeP parts o).length)
theorem Sp.srNew {w0 w : World} {sr way pos ga : Res} {rest : List Res} {Ae Az : Option Addr} {ce n cz : Nat} {zs : List Cb}
  (h : Sp w0 (sr :: way :: Res.row kI 2 w0.heap.size (.slice Ae 0 ce) [] :: pos :: Res.row kC 94 w0.heap.size (.slice Az n cz) zs :: ga :: rest) w) : Sp w0 (ga :: sr :: pos :: Res.poolG kC 94 w0.heap.size [((Az, n, cz), zs)] :: way :: Res.poolG kI 2 w0.heap.size [((Ae, 0, ce), [])] :: rest) w := by
 have h1 := Sp.poolGNil kC 94 h
 have h2 : Sp w0 ([Res.row kC 94 w0.heap.size (.slice Az n cz) zs, Res.poolG kC 94 w0.heap.size [], sr, way, Res.row kI 2 w0.heap.size (.slice Ae 0 ce) [], pos, ga] ++ rest) w := Sp.arr (pre := [Res.poolG kC 94 w0.heap.size [], sr, way, Res.row kI 2 w0.heap.size (.slice Ae 0 ce) [], pos, Res.row kC 94 w0.heap.size (.slice Az n cz) zs, ga]) [5, 0, 1, 2, 3, 4, 6] h1 rfl rfl
 have h3 := Sp.poolGNil kI 2 (Sp.poolGAdd h2)
 have h4 : Sp w0 ([Res.row kI 2 w0.heap.size (.slice Ae 0 ce) [], Res.poolG kI 2 w0.heap.size [], Res.poolG kC 94 w0.heap.size [((Az, n, cz), zs)], sr, way, pos, ga] ++ rest) w := Sp.arr (pre := [Res.poolG kI 2 w0.heap.size [], Res.poolG kC 94 w0.heap.size [((Az, n, cz), zs)], sr, way, Res.row kI 2 w0.heap.size (.slice Ae 0 ce) [], pos, ga]) [4, 0, 1, 2, 3, 5, 6] h3 rfl rfl
 have h5 := Sp.poolGAdd h4
 exact Sp.arr (pre := [Res.poolG kI 2 w0.heap.size [((Ae, 0, ce), [])], Res.poolG kC 94 w0.heap.size [((Az, n, cz), zs)], sr, way, pos, ga]) (pre' := [ga, sr, pos, Res.poolG kC 94 w0.heap.size [((Az, n, cz), zs)], way, Res.poolG kI 2 w0.heap.size [((Ae, 0, ce), [])]]) [5, 2, 4, 1, 3, 0] h5 rfl rfl
def seaF.T5 : Bool × List (List Nat × List Nat) := (true, [([], []), ([0], [0]), ([1], [1]), ([1], [1]), ([3, 1], [1, 3]), ([4, 1], [1, 4]), ([5, 1], [1, 5]), ([1], [1]), ([6, 7, 1], [1, 6, 7]), ([8, 1], [1, 8]), ([2, 9, 1, 1], [1, 2, 9]), ([10, 1], [1, 10]), ([11, 1], [1, 11]), ([1, 12], [1, 12])])
def seaF.B5 : List Nat := [0, 1, 3, 3, 11, 27, 59, 3, 251, 507, 1023, 2047, 4095, 8191]
theorem seaF.tab5 : rtab .any (opsOf Try.f56 5) = seaF.T5 := by kernel_rfl
theorem seaF.bits5 : waitsOk seaF.T5.2 seaF.B5 = true := by kernel_rfl
set_option maxHeartbeats 8000000 in
set_option maxRecDepth 100000 in
theorem search_calls (w0 : World) (Ap : Option Addr) (cp : Nat) (parts : List (List Cb)) (hF : FrOk w0 Ap parts) (hcp : parts.length ≤ cp) (hn : 1 ≤ parts.length ∧ parts.length ≤ 4) (hSO : SpecOk parts.length) (hmv : ∀ o : List Cb, o.length = parts.length → ∃ K, spec_l27Moves.f K parts o = some (movesP parts o)) (b : Bool) (hfr : b = true → ∀ o : List Cb, o.length = parts.length → o.any (fun c => !inCb c (-3) 3) = false → ∃ K, spec_l27Free.f K parts o = some (freeP parts o)) (rest : List Res) (w : World) (hs : Sp w0 rest w) :
  Calls Try.prog 56 #[.agg #[.slice Ap parts.length cp], .bool b] w fun e w' => ∃ gs i, e = .returned (.tuple #[.pointer (some ⟨gs, 0, none⟩), .int .i64 i]) ∧ (∀ S j, searchW parts (exB parts b) 1201 [(zerosC parts.length, [])] 0 = some (S, j) → i = j) ∧ exPost w0 gs parts.length rest ((searchW parts (exB parts b) 1201 [(zerosC parts.length, [])] 0).map Prod.fst) w' := by
 have hu32 := Try.underlying26
 have hu83 := Try.underlying89
 have HF := A0_ hF
 have HCP := A0_ hcp
 have HN := A0_ hn
 have HSO := A0_ hSO
 have HMV := A0_ hmv
 have HFR := A0_ hfr
 have HS := A0_ hs
 clear hs hF hcp hn hSO hmv hfr
 obtain ⟨R, hR⟩ : ∃ R, R = searchW parts (exB parts b) 1201 [(zerosC parts.length, [])] 0 := ⟨_, rfl⟩
 rw [← hR]
 have HR := A0_ hR
 clear hR
 go_enter Try.func56, Try.ntmps56
 go_wp2_with (first
  | ((with_reducible refine gate_dst (N := 2) rfl ?_); refine be_ (N := 2) (cs := #[.slice Ap parts.length cp]) (t := 26) ?_; intro ga hgb_ wb_ hcb_ hbb_; replace HS := A0_ (Sp.boxed HS.out hgb_ hcb_ hbb_); clear hgb_ hcb_ hbb_; have ha0 := (cl_ HS 0 0 rfl).trans rfl)
  | ((with_reducible refine gate_dst (N := 11) rfl ?_); refine Kd.R_make kC _ 94 rfl (N := 11) rfl 35 _ _ rfl ((parts.length : Nat) : Int) rfl rfl Try.underlying35 ((.agg #[(.int .i64 0), (.int .i64 0), (.int .i64 0)])) 24 info94 rfl (by decide) (by decide) ((⟨0, 0, 0⟩ : Cb)) (ok := fun _ => True) (okp := fun _ => True) (k94_mkM _ _ _ (⟨0, 0, 0⟩ : Cb)) (fun _ hk => hk) trivial ?h0 ?hl (Below.refl _ _) (Nat.le_refl _) ?_; (case h0 => omega); (case hl => have := HN.out; omega); intro vm_ wm_ ho_ hb_ hg_ hn_; clear hg_ hn_; rw [Int.toNat_natCast] at ho_; obtain ⟨zs, hxs_⟩ : ∃ xs_, xs_ = List.replicate (parts.length) ((⟨0, 0, 0⟩ : Cb)) := ⟨_, rfl⟩; rw [← hxs_] at ho_; have Hzs := A0_ hxs_; clear hxs_; replace HS := A0_ (Sp.made' HS.out hb_ ho_); clear ho_ hb_; obtain ⟨Az, cz, ev_⟩ := Sp.slice HS.out (i := 0) rfl; subst ev_; clear ha0)
  | ((with_reducible refine gate_dst (N := 12) rfl ?_); refine Kd.R_lit kSl _ 35 ?hg (N := 12) ?hd (xs := [((Az, zs.length, cz) : Sl)]) (inner := [.slice Az zs.length cz]) (ok := fun _ => True) (okp := fun _ => True) ?hr ?hp (fun _ hk => hk) trivial (Below.refl _ _) (Nat.le_refl _) (by simp) ?_; (case hd => rfl); (case hg => rfl); (case hr => first | (go_simp; done) | (go_simp; rfl)); (case hp => exact (Reps.one rfl (Reps.none _ _))); intro vl_ wl_ ho_ hb_ hg_ hn_; clear hg_ hn_; replace HS := A0_ (Sp.made' HS.out hb_ ho_); clear ho_ hb_; obtain ⟨Al, cl, ev_⟩ := Sp.slice HS.out (i := 0) rfl; subst ev_)
  | ((with_reducible refine gate_dst (N := 13) rfl ?_); refine Kd.R_lit kI _ 2 ?hg (N := 13) ?hd (xs := ([] : List Int)) (inner := []) (ok := fun _ => True) (okp := fun _ => True) ?hr ?hp (fun _ hk => hk) trivial (Below.refl _ _) (Nat.le_refl _) (by simp) ?_; (case hd => rfl); (case hg => rfl); (case hr => first | (go_simp; done) | (go_simp; rfl)); (case hp => exact (Reps.none _ _)); intro vl_ wl_ ho_ hb_ hg_ hn_; clear hg_ hn_; replace HS := A0_ (Sp.made' HS.out hb_ ho_); clear ho_ hb_; obtain ⟨Ae, ce, ev_⟩ := Sp.slice HS.out (i := 0) rfl; subst ev_)
  | ((with_reducible refine gate_dst (N := 14) rfl ?_); refine Kd.R_lit kSl _ 28 ?hg (N := 14) ?hd (xs := [((Ae, 0, ce) : Sl)]) (inner := [.slice Ae 0 ce]) (ok := fun _ => True) (okp := fun _ => True) ?hr ?hp (fun _ hk => hk) trivial (Below.refl _ _) (Nat.le_refl _) (by simp) ?_; (case hd => rfl); (case hg => rfl); (case hr => first | (go_simp; done) | (go_simp; rfl)); (case hp => exact (Reps.one rfl (Reps.none _ _))); intro vl_ wl_ ho_ hb_ hg_ hn_; clear hg_ hn_; replace HS := A0_ (Sp.made' HS.out hb_ ho_); clear ho_ hb_; obtain ⟨Aw, cw, ev_⟩ := Sp.slice HS.out (i := 0) rfl; subst ev_)
  | ((with_reducible refine gate_dst (N := 16) rfl ?_); refine be_ (N := 16) (cs := #[.slice Al 1 cl, .slice Aw 1 cw, .bool false]) (t := 89) ?_; intro gs hgb_ wb_ hcb_ hbb_; replace HS := A0_ (Sp.boxed HS.out hgb_ hcb_ hbb_); clear hgb_ hcb_ hbb_))
 replace HS := A0_ (Sp.srNew HS.out)
 have HZL := A0_ (show zs.length = parts.length by rw [Hzs.out]; exact List.length_replicate)
 go_loopg [7] 1202 (fun kq v7 w' => ∃ (k : Nat) (Ao : Option Addr) (co : Nat) (Aw : Option Addr) (cw : Nat) (full : Bool) (PS : List (Sl × List Cb)) (WS : List (Sl × List Int)), v7 = .int .i64 (k : Int) ∧ Aside0 (kq + k = 1202 ∧ k ≤ 1201 ∧ SrOk parts.length PS WS ∧ ((full = true ∧ R = none) ∨ (full = false ∧ k ≤ PS.length ∧ searchW parts (exB parts b) (1201 - k) (ndW PS WS) k = R))) ∧ Aside0 (Sp w0 ([Res.blk ga #[.slice Ap parts.length cp] 26, srBlk gs Ao PS.length co Aw WS.length cw full, posR w0.heap.size Ao co PS, Res.poolG kC 94 w0.heap.size PS, wayR w0.heap.size Aw cw WS, Res.poolG kI 2 w0.heap.size WS] ++ rest) w'))
 case atStart =>
  refine ⟨0, Al, cl, Aw, cw, false, [((Az, zs.length, cz), zs)], [((Ae, 0, ce), [])], rfl, ⟨by omega, by omega, ⟨rfl, by simp, fun p hp => ?_, fun j p hp => ?_, fun p hp => ?_⟩, .inr ⟨rfl, by simp, ?_⟩⟩, HS⟩
  ·obtain rfl := List.mem_singleton.1 hp
   exact HZL.out
  ·cases j with
   | zero => obtain rfl := Option.some.inj hp; exact Nat.le_refl _
   | succ j => simp at hp
  ·obtain rfl := List.mem_singleton.1 hp
   rw [Hzs.out]
   rw [Bool.eq_false_iff]
   intro hc
   obtain ⟨c, hc1, hc2⟩ := List.any_eq_true.1 hc
   rw [List.eq_of_mem_replicate hc1] at hc2
   exact absurd hc2 (by decide)
  ·rw [HR.out, Hzs.out]
   rfl
 case round =>
  clear HS
  obtain ⟨k, Ao, co, Aw, cw, full, PS, WS, rfl, HX, HS⟩ := hrel
  obtain ⟨k1, rfl⟩ : ∃ k1, gk = k1 + 1 := ⟨gk - 1, by have := HX.out; omega⟩
  have hs0 : wr.cell? ⟨gs, 0, none⟩ = some (.slice Ao PS.length co) := (cl_ HS 1 0 rfl).trans rfl
  have hs2 : wr.cell? ⟨gs, 2, none⟩ = some (.bool full) := (cl_ HS 1 2 rfl).trans rfl
  have HW := A0_ (wrap_succ k (by have := HX.out; omega))
  rcases HX.out.2.2.2 with ⟨hf, hrn⟩ | ⟨hf, hkp, hse⟩
  ·subst hf
   have HRN := A0_ hrn
   clear hrn
   by_cases ck : k < PS.length
   ·have ck0 : decide (k < PS.length) = true := decide_eq_true ck
    clear ck
    go_wp2
    go_ret2
    refine ⟨gs, -1, rfl, fun S j h => (by rw [HRN.out] at h; cases h), ?_⟩
    rw [HRN.out]
    exact ⟨Ao, co, Aw, cw, PS, WS, HX.out.2.2.1, Sp.out HS.out 0⟩
   ·have ck0 : decide (k < PS.length) = false := decide_eq_false ck
    clear ck
    go_wp2
    go_ret2
    refine ⟨gs, -1, rfl, fun S j h => (by rw [HRN.out] at h; cases h), ?_⟩
    rw [HRN.out]
    exact ⟨Ao, co, Aw, cw, PS, WS, HX.out.2.2.1, Sp.out HS.out 0⟩
  ·subst hf
   by_cases ck : k < PS.length
   ·have ck0 : decide (k < PS.length) = true := decide_eq_true ck
    obtain ⟨p0, hp0⟩ : ∃ p0, PS[k]? = some p0 := ⟨PS[k], List.getElem?_eq_getElem ck⟩
    have hmem : p0 ∈ PS := List.mem_of_getElem? hp0
    have hok := HX.out.2.2.1
    obtain ⟨q0, hq0⟩ : ∃ q0, WS[k]? = some q0 := ⟨WS[k]'(by rw [← hok.len]; exact ck), List.getElem?_eq_getElem _⟩
    have hgd : (ndW PS WS).getD k default = (p0.2, q0.2) := by
     have hz : ((PS.map Prod.snd).zip (WS.map Prod.snd))[k]? = some (p0.2, q0.2) := List.getElem?_zip_eq_some.2 ⟨by rw [List.getElem?_map, hp0]; rfl, by rw [List.getElem?_map, hq0]; rfl⟩
     unfold ndW
     rw [List.getD_eq_getElem?_getD, hz]
     rfl
    rw [show 1201 - k = (1200 - k) + 1 by have := hok.top; omega] at hse
    unfold searchW at hse
    rw [if_pos (by rw [ndW_len hok.len]; exact ck), hgd] at hse
    dsimp only at hse
    have HEX := A0_ (fun A2 rs w2 (hs : Sp w0 (srRes w0.heap.size gs A2 co Aw cw false PS WS ++ rs) w2) => expand_calls w0 Ap cp gs parts HF.out HCP.out HN.out HSO.out A2 co Aw cw PS WS hok k p0 hp0 (HMV.out _ (hok.pos p0 hmem)) q0.2 ⟨q0, hq0, rfl⟩ rs w2 hs)
    have HCK := A0_ (show k < PS.length from ck)
    have HLE := A0_ (fun S' (h : (movesP parts p0.2).foldlM (visitW p0.2 q0.2) (ndW PS WS) = some S') => spreadW_le _ h)
    have HFP := A0_ (fun hb => HFR.out hb p0.2 (hok.pos p0 hmem) (hok.near p0 hmem))
    have HMEM := A0_ hmem
    generalize (movesP parts p0.2).foldlM (visitW p0.2 q0.2) (ndW PS WS) = E at HEX hse HLE
    cases b with
    | false =>
     rw [show exB parts false p0.2 = false from rfl, if_neg (by simp)] at hse
     have HSE := A0_ hse
     clear hse hgd hmem hp0 hq0 hok ck hkp HFP
     go_wp2
     have HS_ := A0_ (show Sp w0 ([Res.blk ga #[.slice Ap parts.length cp] 26, srBlk gs Ao PS.length co Aw WS.length cw false, posR w0.heap.size Ao co PS, Res.poolG kC 94 w0.heap.size PS, wayR w0.heap.size Aw cw WS, Res.poolG kI 2 w0.heap.size WS] ++ rest) wr.drew from Sp.drew HS.out)
     clear HS hs0 hs2
     have HS := HS_
     clear HS_
     refine start_ (n := 14) (S := fun w' => True) (ds := []) #[false, false, false, false, false, false, false, false, false, false, false, false, false, false] (by kernel_rfl) rfl rfl (trivial) (fun hHeld => ?_)
     refine with_tabW seaF.tab5 seaF.bits5 (fun HT_ HW_ => ?_)
     generalize wr.drew = wD at HS ⊢
     refine on_ 0 (some 33) ?_
     refine on_ 1 (some 34) ?_
     refine of_ 2 (some 35) ?_
     refine of_ 3 (some 36) ?_
     refine of_ 4 (some 37) ?_
     refine of_ 5 (some 38) ?_
     refine of_ 6 (some 39) ?_
     refine of_ 7 (some 40) ?_
     refine of_ 8 (some 41) ?_
     refine of_ 9 (some 42) ?_
     refine of_ 10 (some 43) ?_
     refine of_ 11 (some 44) ?_
     refine of_ 12 (some 45) ?_
     refine on_ 13 (some 46) ?_
     refine dn_ ?_
     have ha0 := (cl_ HS 0 0 rfl).trans rfl
     go_wp2_with (first
      | (go_at_call 87; replace HS := A0_ (Sp.arr (pre := [Res.blk ga #[.slice Ap parts.length cp] 26, srBlk gs Ao PS.length co Aw WS.length cw false, posR w0.heap.size Ao co PS, Res.poolG kC 94 w0.heap.size PS, wayR w0.heap.size Aw cw WS, Res.poolG kI 2 w0.heap.size WS]) (pre' := [srBlk gs Ao PS.length co Aw WS.length cw false, posR w0.heap.size Ao co PS, Res.poolG kC 94 w0.heap.size PS, wayR w0.heap.size Aw cw WS, Res.poolG kI 2 w0.heap.size WS, Res.blk ga #[.slice Ap parts.length cp] 26]) (rest := rest) [1, 2, 3, 4, 5, 0] HS.out rfl rfl); refine (HEX.out Ao ([Res.blk ga #[.slice Ap parts.length cp] 26] ++ rest) _ HS.out).mono ?_; rintro e we_ ⟨rfl, Ao2, co2, Aw2, cw2, PS2, WS2, hok2_, hm_⟩; have HM := A0_ hm_; have HOK2 := A0_ hok2_; clear HS hm_ hok2_ ha0))
     go_roundg k1
     case measure => omega
     case rel =>
      rw [HW.out]
      have hm := HM.out
      cases E with
      | none =>
       have hse : none = R := HSE.out
       exact ⟨k + 1, Ao2, co2, Aw2, cw2, true, PS2, WS2, rfl, ⟨by have := HX.out; omega, by have h1 := HCK.out; have h2 := HX.out.2.2.1.top; omega, HOK2.out, .inl ⟨rfl, hse.symm⟩⟩, ⟨Sp.arr (pre := [srBlk gs Ao2 PS2.length co2 Aw2 WS2.length cw2 true, posR w0.heap.size Ao2 co2 PS2, Res.poolG kC 94 w0.heap.size PS2, wayR w0.heap.size Aw2 cw2 WS2, Res.poolG kI 2 w0.heap.size WS2, Res.blk ga #[.slice Ap parts.length cp] 26]) (rest := rest) [5, 0, 1, 2, 3, 4] hm rfl rfl⟩⟩
      | some S' =>
       have hse : searchW parts (exB parts false) (1200 - k) S' (k + 1) = R := HSE.out
       obtain ⟨hm1, hm2⟩ := hm
       refine ⟨k + 1, Ao2, co2, Aw2, cw2, false, PS2, WS2, rfl, ⟨by have := HX.out; omega, by have h1 := HCK.out; have h2 := HX.out.2.2.1.top; omega, HOK2.out, .inr ⟨rfl, ?_, ?_⟩⟩, ⟨Sp.arr (pre := [srBlk gs Ao2 PS2.length co2 Aw2 WS2.length cw2 false, posR w0.heap.size Ao2 co2 PS2, Res.poolG kC 94 w0.heap.size PS2, wayR w0.heap.size Aw2 cw2 WS2, Res.poolG kI 2 w0.heap.size WS2, Res.blk ga #[.slice Ap parts.length cp] 26]) (rest := rest) [5, 0, 1, 2, 3, 4] hm2 rfl rfl⟩⟩
       ·have h1 := HLE.out S' rfl
        rw [← hm1, ndW_len HX.out.2.2.1.len, ndW_len HOK2.out.len] at h1
        have h2 := HCK.out
        omega
       ·rw [hm1, show 1201 - (k + 1) = 1200 - k by omega]
        exact hse
    | true =>
     obtain ⟨KF, hKF⟩ := HFP.out rfl
     obtain ⟨g1, g2, g3⟩ := Sp.poolGC HS.out (i := 3) rfl hmem
     obtain ⟨adp, e, hx⟩ := at_Sl (Sp.reads HS.out (i := 2) rfl).2.2 k (by rw [List.length_map]; exact ck)
     subst e
     obtain ⟨⟨A0, n0, c0⟩, o⟩ := p0
     dsimp only at g1 g2 hKF hse HEX HLE
     subst g1
     have HGD := A0_ (show slV ((PS.map Prod.fst).getD k (none, 0, 0)) = .slice A0 o.length c0 by rw [List.getD_eq_getElem?_getD, List.getElem?_map, hp0]; rfl)
     have HOC := A0_ g2
     obtain ⟨fs, hfs⟩ : ∃ fs, fs = freeP parts o := ⟨_, rfl⟩
     rw [← hfs] at hKF
     have HKF := A0_ hKF
     have hexb : exB parts true o = decide (0 < fs.length) := by rw [hfs]; rfl
     rw [hexb] at hse
     have q0_ : (0 ≤ (k : Int)) = True := eq_true (by omega)
     have q1_ : ((k : Int) < (PS.length : Int)) = True := eq_true (by omega)
     have HSE := A0_ hse
     clear hse hgd hmem hp0 hq0 hok ck hkp HFP g2 g3 hx hfs hKF hexb
     go_wp2
     have HS_ := A0_ (show Sp w0 ([Res.blk ga #[.slice Ap parts.length cp] 26, srBlk gs (some adp) PS.length co Aw WS.length cw false, posR w0.heap.size (some adp) co PS, Res.poolG kC 94 w0.heap.size PS, wayR w0.heap.size Aw cw WS, Res.poolG kI 2 w0.heap.size WS] ++ rest) wr.drew from Sp.drew HS.out)
     clear HS hs0 hs2
     have HS := HS_
     clear HS_
     refine start_ (n := 14) (S := fun w' => w'.cell? ⟨ga, 0, none⟩ = some (.slice Ap parts.length cp) ∧ w'.cell? ⟨gs, 0, none⟩ = some (.slice (some adp) PS.length co) ∧ w'.cell? (adp.add k) = some (.slice A0 o.length c0)) (ds := []) #[false, false, false, false, false, false, false, false, false, false, false, false, false, false] (by kernel_rfl) rfl rfl (⟨(cl_ HS 0 0 rfl).trans rfl, (cl_ HS 1 0 rfl).trans rfl, (HGD.out ▸ Sp.slCell HS.out (i := 2) rfl k HCK.out)⟩) (fun hHeld => ?_)
     refine with_tabW seaF.tab5 seaF.bits5 (fun HT_ HW_ => ?_)
     generalize wr.drew = wD at HS hHeld ⊢
     refine on_ 0 (some 33) ?_
     refine on_ 1 (some 34) ?_
     refine tk_ 2 (some 35) ?_
     refine on_ 3 (some 36) ?_
     refine on_ 4 (some 37) ?_
     refine on_ 5 (some 38) ?_
     refine tk_ 6 (some 39) ?_
     refine on_ 7 (some 40) ?_
     refine on_ 8 (some 41) ?_
     refine tk_ 9 (some 42) ?_
     refine o1_ 10 (some 43) (fun K hK => ?_)
     refine gs_ Try.func49 #[.agg #[.slice Ap parts.length cp], .slice A0 o.length c0] ?_
     refine (spec_l27Free.calls KF Ap cp parts A0 c0 o fs _ (Kd.C_below HF.out.C HS.out.below) HCP.out (Sp.poolGC HS.out (i := 3) rfl HMEM.out).2.2 HOC.out HKF.out).mono ?_
     rintro e wm_ ⟨vm_, rfl, ho_, hb_⟩
     refine ⟨_, rfl, ?_⟩
     replace HS := A0_ (Sp.made' HS.out hb_ ho_)
     obtain ⟨Am, cm, rfl⟩ := Kd.R_slice ho_
     clear ho_ hb_
     refine hK.out _ _ (⟨(cl_ HS 1 0 rfl).trans rfl, (cl_ HS 2 0 rfl).trans rfl, (HGD.out ▸ Sp.slCell HS.out (i := 3) rfl k HCK.out)⟩) (fun hHeld => ?_)
     clear hK K
     refine nm_ (some 43) ?_
     refine on_ 11 (some 44) ?_
     refine on_ 12 (some 45) ?_
     refine on_ 13 (some 46) ?_
     refine dn_ ?_
     by_cases hz : 0 < fs.length
     ·have z0 : decide (0 < fs.length) = true := decide_eq_true hz
      have z1 := eq_true hz
      have HRN := A0_ (show R = some (ndW PS WS, (k : Int)) by
       have h := HSE.out
       rw [if_pos z0] at h
       exact h.symm)
      clear hz HSE
      rw [z0]
      go_wp2
      go_ret2
      refine ⟨gs, k, rfl, fun S j h => (by rw [HRN.out] at h; injection h with h; injection h with _ h), ?_⟩
      rw [HRN.out]
      exact ⟨some adp, co, Aw, cw, PS, WS, HX.out.2.2.1, rfl, Sp.tail (Sp.tail HS.out)⟩
     ·have z0 : decide (0 < fs.length) = false := decide_eq_false hz
      have z1 := eq_false hz
      have hse := HSE.out
      rw [if_neg (by rw [z0]; simp)] at hse
      clear HSE
      have HSE := A0_ hse
      have HS_ := A0_ (Sp.tail HS.out)
      clear HS hz hse
      have HS := HS_
      clear HS_
      rw [z0]
      have ha0 := (cl_ HS 0 0 rfl).trans rfl
      go_wp2_with (first
       | (go_at_call 87; replace HS := A0_ (Sp.arr (pre := [Res.blk ga #[.slice Ap parts.length cp] 26, srBlk gs (some adp) PS.length co Aw WS.length cw false, posR w0.heap.size (some adp) co PS, Res.poolG kC 94 w0.heap.size PS, wayR w0.heap.size Aw cw WS, Res.poolG kI 2 w0.heap.size WS]) (pre' := [srBlk gs (some adp) PS.length co Aw WS.length cw false, posR w0.heap.size (some adp) co PS, Res.poolG kC 94 w0.heap.size PS, wayR w0.heap.size Aw cw WS, Res.poolG kI 2 w0.heap.size WS, Res.blk ga #[.slice Ap parts.length cp] 26]) (rest := rest) [1, 2, 3, 4, 5, 0] HS.out rfl rfl); refine (HEX.out (some adp) ([Res.blk ga #[.slice Ap parts.length cp] 26] ++ rest) _ HS.out).mono ?_; rintro e we_ ⟨rfl, Ao2, co2, Aw2, cw2, PS2, WS2, hok2_, hm_⟩; have HM := A0_ hm_; have HOK2 := A0_ hok2_; clear HS hm_ hok2_ ha0))
      go_roundg k1
      case measure => omega
      case rel =>
       rw [HW.out]
       have hm := HM.out
       cases E with
       | none =>
        have hse : none = R := HSE.out
        exact ⟨k + 1, Ao2, co2, Aw2, cw2, true, PS2, WS2, rfl, ⟨by have := HX.out; omega, by have h1 := HCK.out; have h2 := HX.out.2.2.1.top; omega, HOK2.out, .inl ⟨rfl, hse.symm⟩⟩, ⟨Sp.arr (pre := [srBlk gs Ao2 PS2.length co2 Aw2 WS2.length cw2 true, posR w0.heap.size Ao2 co2 PS2, Res.poolG kC 94 w0.heap.size PS2, wayR w0.heap.size Aw2 cw2 WS2, Res.poolG kI 2 w0.heap.size WS2, Res.blk ga #[.slice Ap parts.length cp] 26]) (rest := rest) [5, 0, 1, 2, 3, 4] hm rfl rfl⟩⟩
       | some S' =>
        have hse : searchW parts (exB parts true) (1200 - k) S' (k + 1) = R := HSE.out
        obtain ⟨hm1, hm2⟩ := hm
        refine ⟨k + 1, Ao2, co2, Aw2, cw2, false, PS2, WS2, rfl, ⟨by have := HX.out; omega, by have h1 := HCK.out; have h2 := HX.out.2.2.1.top; omega, HOK2.out, .inr ⟨rfl, ?_, ?_⟩⟩, ⟨Sp.arr (pre := [srBlk gs Ao2 PS2.length co2 Aw2 WS2.length cw2 false, posR w0.heap.size Ao2 co2 PS2, Res.poolG kC 94 w0.heap.size PS2, wayR w0.heap.size Aw2 cw2 WS2, Res.poolG kI 2 w0.heap.size WS2, Res.blk ga #[.slice Ap parts.length cp] 26]) (rest := rest) [5, 0, 1, 2, 3, 4] hm2 rfl rfl⟩⟩
        ·have h1 := HLE.out S' rfl
         rw [← hm1, ndW_len HX.out.2.2.1.len, ndW_len HOK2.out.len] at h1
         have h2 := HCK.out
         omega
        ·rw [hm1, show 1201 - (k + 1) = 1200 - k by omega]
         exact hse
   ·have ck0 : decide (k < PS.length) = false := decide_eq_false ck
    have HRN := A0_ (show R = some (ndW PS WS, -1) by
     cases hfu : 1201 - k with
     | zero => rw [hfu] at hse; exact hse.symm
     | succ f =>
      rw [hfu] at hse
      unfold searchW at hse
      rw [if_neg (by rw [ndW_len HX.out.2.2.1.len]; exact ck)] at hse
      exact hse.symm)
    clear ck hse hkp
    go_wp2
    go_ret2
    refine ⟨gs, -1, rfl, fun S j h => (by rw [HRN.out] at h; injection h with h; injection h with _ h), ?_⟩
    rw [HRN.out]
    exact ⟨Ao, co, Aw, cw, PS, WS, HX.out.2.2.1, rfl, Sp.out HS.out 0⟩
def statesS (b : Bool) (parts : List (List Cb)) : Int × Int :=
 if b = true then (match searchW parts (exB parts false) 1201 [(zerosC parts.length, [])] 0 with | none => (0, 3) | some r => ((r.1.length : Int), 0)) else (0, 1)
set_option maxHeartbeats 4000000 in
set_option maxRecDepth 100000 in
theorem specStates_calls (Ap : Option Addr) (cp : Nat) (parts : List (List Cb)) (w : World) (b : Bool) (hia : ∀ w', Below w.heap.size w w' → Calls Try.prog 55 #[.agg #[.slice Ap parts.length cp]] w' fun e w'' => e = .returned (.bool b) ∧ Below w'.heap.size w' w'')
  (hcp : parts.length ≤ cp) (hb : b = true → FrOk w Ap parts ∧ (1 ≤ parts.length ∧ parts.length ≤ 4) ∧ SpecOk parts.length ∧ ∀ o : List Cb, o.length = parts.length → ∃ K, spec_l27Moves.f K parts o = some (movesP parts o)) :
  Calls Try.prog 19 #[.agg #[.slice Ap parts.length cp]] w fun e w' => e = .returned (.tuple #[.int .i64 (statesS b parts).1, .int .i64 (statesS b parts).2]) ∧ Below w.heap.size w w' := by
 have hu32 := Try.underlying26
 have HS := A0_ (Sp.start w)
 have HIA := A0_ hia
 have HCP := A0_ hcp
 clear hia hcp
 cases b with
 | false =>
  have HST := A0_ (show statesS false parts = (0, 1) by unfold statesS; rw [if_neg (by simp)])
  clear hb
  rw [HST.out]
  go_enter Try.func19, Try.ntmps19
  go_wp2_with (first
   | ((with_reducible refine gate_dst (N := 1) rfl ?_); refine be_ (N := 1) (cs := #[.slice Ap parts.length cp]) (t := 26) ?_; intro ga hgb_ wb_ hcb_ hbb_; replace HS := A0_ (Sp.boxed HS.out hgb_ hcb_ hbb_); clear hgb_ hcb_ hbb_; have ha0 := (cl_ HS 0 0 rfl).trans rfl)
   | (go_at_call 55; refine (HIA.out _ HS.out.below).mono ?_; rintro e wi_ ⟨rfl, hb_⟩; replace HS := A0_ (Sp.far HS.out hb_); clear hb_ ha0))
  go_ret2
  exact ⟨rfl, HS.out.below⟩
 | true =>
  obtain ⟨hF, hn, hSO, hmv⟩ := hb rfl
  have HST := A0_ (show statesS true parts = (match searchW parts (exB parts false) 1201 [(zerosC parts.length, [])] 0 with | none => (0, 3) | some r => ((r.1.length : Int), 0)) by unfold statesS; rw [if_pos rfl])
  have HSE := A0_ (fun rs w2 (hs : Sp w rs w2) => search_calls w Ap cp parts hF HCP.out hn hSO hmv false (fun h => by cases h) rs w2 hs)
  clear hb hF hn hSO hmv
  obtain ⟨RV, hRV⟩ : ∃ RV, RV = statesS true parts := ⟨_, rfl⟩
  have HRV := A0_ (hRV.trans HST.out)
  rw [← hRV]
  clear hRV HST
  generalize searchW parts (exB parts false) 1201 [(zerosC parts.length, [])] 0 = R at HSE HRV
  cases R with
  | none =>
   have HRW := A0_ (show RV = (0, 3) from HRV.out)
   clear HRV
   go_enter Try.func19, Try.ntmps19
   go_wp2_with (first
    | ((with_reducible refine gate_dst (N := 1) rfl ?_); refine be_ (N := 1) (cs := #[.slice Ap parts.length cp]) (t := 26) ?_; intro ga hgb_ wb_ hcb_ hbb_; replace HS := A0_ (Sp.boxed HS.out hgb_ hcb_ hbb_); clear hgb_ hcb_ hbb_; have ha0 := (cl_ HS 0 0 rfl).trans rfl)
    | (go_at_call 55; refine (HIA.out _ HS.out.below).mono ?_; rintro e wi_ ⟨rfl, hb_⟩; replace HS := A0_ (Sp.far HS.out hb_); clear hb_ ha0; have ha0 := (cl_ HS 0 0 rfl).trans rfl)
    | (go_at_call 56; refine (HSE.out _ _ HS.out).mono ?_; rintro e ws_ ⟨gs, i_, rfl, _, Ao, co, Aw, cw, PS, WS, hok_, hs_⟩; replace HS := A0_ (hs_); clear hs_ hok_ ha0; have hs0 := (cl_ HS 0 0 rfl).trans rfl; have hs2 := (cl_ HS 0 2 rfl).trans rfl))
   go_ret2
   exact ⟨by rw [HRW.out]; rfl, HS.out.below⟩
  | some r =>
   have HRW := A0_ (show RV = ((r.1.length : Int), 0) from HRV.out)
   clear HRV
   go_enter Try.func19, Try.ntmps19
   go_wp2_with (first
    | ((with_reducible refine gate_dst (N := 1) rfl ?_); refine be_ (N := 1) (cs := #[.slice Ap parts.length cp]) (t := 26) ?_; intro ga hgb_ wb_ hcb_ hbb_; replace HS := A0_ (Sp.boxed HS.out hgb_ hcb_ hbb_); clear hgb_ hcb_ hbb_; have ha0 := (cl_ HS 0 0 rfl).trans rfl)
    | (go_at_call 55; refine (HIA.out _ HS.out.below).mono ?_; rintro e wi_ ⟨rfl, hb_⟩; replace HS := A0_ (Sp.far HS.out hb_); clear hb_ ha0; have ha0 := (cl_ HS 0 0 rfl).trans rfl)
    | (go_at_call 56; refine (HSE.out _ _ HS.out).mono ?_; rintro e ws_ ⟨gs, i_, rfl, _, Ao, co, Aw, cw, PS, WS, hok_, hm_, hs_⟩; have HM := A0_ hm_; have HOK := A0_ hok_; replace HS := A0_ (hs_); clear hs_ hok_ hm_ ha0; have hs0 := (cl_ HS 0 0 rfl).trans rfl; have hs2 := (cl_ HS 0 2 rfl).trans rfl))
   go_ret2
   exact ⟨by rw [HRW.out, show r.1 = ndW PS WS from HM.out.symm, ndW_len HOK.out.len]; rfl, HS.out.below⟩
theorem near_ev (l : List Cb) (h : l.length ≤ 1048576) : Ev (fun k => spec_l28Near.f k l) (!l.any (fun c => !inCb c (-3) 3)) := by
 obtain ⟨r, hr, hk⟩ : ∃ r, r = (!l.any (fun c => !inCb c (-3) 3)) ∧ Ev (fun k => spec_l28Near.f k l) r := by
  unfold spec_l28Near.f
  refine ev_inv0 l.length (fun (_ : Unit) j => (l.take j).any (fun c => !inCb c (-3) 3) = false) (fun r => r = (!l.any (fun c => !inCb c (-3) 3))) (fun _ i k => spec_l28Near.l0 k l i) (fun s hi => ?_) (fun s j hj hi => ?_) () rfl
  ·refine ⟨true, ?_, Ev.step (f := fun _ => some true) (fun k => by simp only [spec_l28Near.l0]; rw [if_neg (by omega)]) (Ev.now _)⟩
   rw [List.take_length] at hi
   rw [hi]
   rfl
  ·have hg : rd_T94 l (j : Int) = l[j] := by unfold rd_T94; exact getD_nat l _ j hj
   have hw := wrap_succ j (show j < 9223372036854775807 by omega)
   by_cases c : inCb l[j] (-3) 3 = true
   ·refine .inr ⟨(), ?_, fun r h2 => Ev.succ ?_⟩
    ·show (l.take (j + 1)).any _ = false
     rw [List.take_succ_eq_append_getElem hj, List.any_append, hi]
     simp [c]
    ·have c' := c
     unfold inCb at c'
     rw [Bool.and_eq_true, Bool.and_eq_true] at c'
     simp only [spec_l28Near.l0, hg, in_eq, Option.bind_some, c'.1, c'.2.1, c'.2.2, if_true, show (j : Int) < (l.length : Int) from by omega, show (0 : Int) ≤ (j : Int) from by omega, hw]
     exact h2
   ·have c1 : inCb l[j] (-3) 3 = false := by simpa using c
    refine .inl ⟨false, ?_, Ev.step (f := fun _ => some false) (fun k => ?_) (Ev.now _)⟩
    ·have : l.any (fun c => !inCb c (-3) 3) = true := List.any_eq_true.2 ⟨_, List.getElem_mem hj, by rw [c1]; rfl⟩
     rw [this]
     rfl
    ·unfold inCb at c1
     simp only [spec_l28Near.l0, hg, in_eq, Option.bind_some, show (j : Int) < (l.length : Int) from by omega, show (0 : Int) ≤ (j : Int) from by omega, if_true]
     cases e0 : inR l[j].f0 (-3) 3
     ·rfl
     ·cases e1 : inR l[j].f1 (-3) 3
      ·rfl
      ·cases e2 : inR l[j].f2 (-3) 3
       ·rfl
       ·rw [e0, e1, e2] at c1
        cases c1
 rw [← hr]
 exact hk
theorem u64_nn (k : Nat) (h : k ≤ 8) : 0 ≤ IntKind.u64.wrap (k : Int) := by
 obtain h | h | h | h | h | h | h | h | h : k = 0 ∨ k = 1 ∨ k = 2 ∨ k = 3 ∨ k = 4 ∨ k = 5 ∨ k = 6 ∨ k = 7 ∨ k = 8 := by omega
 all_goals subst h; decide
theorem movedP_at (o : List Cb) (m : Int) (j : Nat) (hj : j < o.length) : (movedP o m)[j]'(by rw [movedP_len]; exact hj) = if (m.toNat / 6).testBit j = true then addC (oAt o j) (vecP (m % 6)) else oAt o j := by
 simp [movedP]
theorem after_ev (o : List Cb) (m : Int) (hl : o.length ≤ 8) (h6 : 6 ≤ m) (hm : m ≤ 9223372036854775807) : Ev (fun k => spec_l27After.f k o m) (movedP o m) := by
 obtain ⟨r, hr, hk⟩ : ∃ r, r = movedP o m ∧ Ev (fun k => spec_l27After.f k o m) r := by
  unfold spec_l27After.f
  refine ev_inv0 o.length (fun (s : List Cb) j => s = (movedP o m).take j) (fun r => r = movedP o m) (fun s i k => spec_l27After.l0 k o m s i) (fun s hi => ?_) (fun s j hj hi => ?_) [] rfl
  ·refine ⟨s, ?_, Ev.step (f := fun _ => some s) (fun k => by simp only [spec_l27After.l0]; rw [if_neg (by omega)]) (Ev.now _)⟩
   rw [hi, List.take_of_length_le (by rw [movedP_len]; exact Nat.le_refl _)]
  ·have hg : rd_T94 o (j : Int) = oAt o j := rfl
   have hw := wrap_succ j (show j < 9223372036854775807 by omega)
   have hsl : s.length < 5864062014805 := by
    rw [hi, List.length_take]
    omega
   have hnn := u64_nn j (by omega)
   have hq : m.tmod 6 = m % 6 := Int.tmod_eq_emod_of_nonneg (by omega)
   have hv := vec_eq (m % 6) (by omega)
   have hat := movedP_at o m j hj
   have hnext : (movedP o m).take (j + 1) = s ++ [if (m.toNat / 6).testBit j = true then addC (oAt o j) (vecP (m % 6)) else oAt o j] := by
    rw [List.take_succ_eq_append_getElem (by rw [movedP_len]; exact hj), hat, hi]
   refine .inr ⟨_, hnext.symm, fun r h2 => Ev.succ ?_⟩
   cases hb : (m.toNat / 6).testBit j with
   | false =>
    have hbit : bits .and .i64 (shr .i64 (wrap64 (Int.tdiv m 6)) (IntKind.u64.wrap (j : Int))) 1 = 0 := bit_of m j h6 hm (by omega) false hb
    rw [hb, if_neg (by simp)] at h2
    simp only [spec_l27After.l0, hg, hbit, hsl, if_true, if_false, show (j : Int) < (o.length : Int) from by omega, show (0 : Int) ≤ (j : Int) from by omega, hw, hnn, show ¬ ((0 : Int) = 1) from by omega]
    exact h2
   | true =>
    have hbit : bits .and .i64 (shr .i64 (wrap64 (Int.tdiv m 6)) (IntKind.u64.wrap (j : Int))) 1 = 1 := bit_of m j h6 hm (by omega) true hb
    rw [hb, if_pos rfl] at h2
    simp only [spec_l27After.l0, hg, hbit, hsl, hq, hv, spec_l09Add.f, Option.bind_some, if_true, if_false, show (j : Int) < (o.length : Int) from by omega, show (0 : Int) ≤ (j : Int) from by omega, hw, hnn]
    exact h2
 rw [← hr]
 exact hk
theorem less_none (a b : Cb) (h1 : lessC a b = false) (h2 : lessC b a = false) : a = b := by
 rcases a with ⟨a0, a1, a2⟩
 rcases b with ⟨b0, b1, b2⟩
 unfold lessC at h1 h2
 dsimp only at h1 h2
 by_cases e2 : a2 = b2
 ·subst e2
  rw [if_pos rfl] at h1 h2
  by_cases e1 : a1 = b1
  ·subst e1
   rw [if_pos rfl, decide_eq_false_iff_not] at h1 h2
   rw [show a0 = b0 by omega]
  ·rw [if_neg e1, decide_eq_false_iff_not] at h1
   rw [if_neg (Ne.symm e1), decide_eq_false_iff_not] at h2
   omega
 ·rw [if_neg e2, decide_eq_false_iff_not] at h1
  rw [if_neg (Ne.symm e2), decide_eq_false_iff_not] at h2
  omega
theorem less_irr (a : Cb) : lessC a a = false := by
 unfold lessC
 rw [if_pos rfl, if_pos rfl, decide_eq_false_iff_not]
 omega
theorem same_ev (p q : List Cb) (hl : p.length = q.length) (h : p.length ≤ 1048576) : Ev (fun k => spec_l28Same.f k p q) (decide (p = q)) := by
 obtain ⟨r, hr, hk⟩ : ∃ r : Int, (r == 0) = decide (p = q) ∧ Ev (fun k => spec_l09Compare.f k p q) r := by
  unfold spec_l09Compare.f
  simp only [show (p.length : Int) = (q.length : Int) from by omega, if_true]
  refine ev_inv0 p.length (fun (_ : Unit) j => ∀ i (h1 : i < p.length) (h2 : i < q.length), i < j → p[i] = q[i]) (fun r : Int => (r == 0) = decide (p = q)) (fun _ i k => spec_l09Compare.l0 k p q i) (fun s hi => ?_) (fun s j hj hi => ?_) () (fun i h1 h2 h3 => by omega)
  ·refine ⟨0, ?_, Ev.step (f := fun _ => some 0) (fun k => by simp only [spec_l09Compare.l0]; rw [if_neg (by omega)]) (Ev.now _)⟩
   have : p = q := List.ext_getElem hl (fun i h1 h2 => hi i h1 h2 h1)
   rw [decide_eq_true this]
   rfl
  ·have hg : rd_T94 p (j : Int) = p[j] := by unfold rd_T94; exact getD_nat p _ j hj
   have hg2 : rd_T94 q (j : Int) = q[j] := by unfold rd_T94; exact getD_nat q _ j (by omega)
   have hw := wrap_succ j (show j < 9223372036854775807 by omega)
   have hne : p[j] ≠ q[j] → decide (p = q) = false := fun hn => decide_eq_false (fun e => hn (by subst e; rfl))
   cases e1 : lessC p[j] q[j] with
   | true =>
    refine .inl ⟨-1, ?_, Ev.step (f := fun _ => some (-1)) (fun k => ?_) (Ev.now _)⟩
    ·rw [hne (fun e => by rw [e, less_irr] at e1; cases e1)]
     rfl
    ·simp only [spec_l09Compare.l0, hg, hg2, less_eq, e1, Option.bind_some, if_true, show (j : Int) < (p.length : Int) from by omega, show (j : Int) < (q.length : Int) from by omega, show (0 : Int) ≤ (j : Int) from by omega]
   | false =>
    cases e2 : lessC q[j] p[j] with
    | true =>
     refine .inl ⟨1, ?_, Ev.step (f := fun _ => some 1) (fun k => ?_) (Ev.now _)⟩
     ·rw [hne (fun e => by rw [e, less_irr] at e2; cases e2)]
      rfl
     ·simp only [spec_l09Compare.l0, hg, hg2, less_eq, e1, e2, Option.bind_some, if_true, Bool.false_eq_true, if_false, show (j : Int) < (p.length : Int) from by omega, show (j : Int) < (q.length : Int) from by omega, show (0 : Int) ≤ (j : Int) from by omega]
    | false =>
     have heq := less_none _ _ e1 e2
     refine .inr ⟨(), fun i h1 h2 h3 => ?_, fun r h2 => Ev.succ ?_⟩
     ·by_cases c : i = j
      ·subst c; exact heq
      ·exact hi i h1 h2 (by omega)
     ·simp only [spec_l09Compare.l0, hg, hg2, less_eq, e1, e2, Option.bind_some, if_true, Bool.false_eq_true, if_false, show (j : Int) < (p.length : Int) from by omega, show (j : Int) < (q.length : Int) from by omega, show (0 : Int) ≤ (j : Int) from by omega, hw]
      exact h2
 unfold spec_l28Same.f
 refine Ev.bind hk (Ev.val fun k => by rw [hr])
theorem spec_ok (n : Nat) (hn : n ≤ 4) : SpecOk n where
 near nx h := (near_ev nx (by omega)).rounds
 same p q h1 h2 := (same_ev p q (by omega) (by omega)).rounds
 after o m h hmv := (after_ev o m (by omega) (by
  unfold isMv at hmv
  rw [Bool.and_eq_true, decide_eq_true_eq] at hmv
  exact hmv.1) (isMv_le (by omega) hmv)).rounds
abbrev ndAt (S : List Nd) (j : Nat) : Nd := S.getD j default
abbrev pwAt (T : List (List Cb × List Int)) (j : Nat) : List Cb × List Int := T.getD j default
def wayF (S : List Nd) : Nat → Nat → List Int
 | 0, _ => []
 | f + 1, j => if (ndAt S j).2.1 < 0 then [] else wayF S f (ndAt S j).2.1.toNat ++ [(ndAt S j).2.2]
def wayN (S : List Nd) (j : Nat) : List Int := wayF S (j + 1) j
def WfN (S : List Nd) : Prop := ∀ j : Nat, j < S.length → (ndAt S j).2.1 < (j : Int)
theorem wayF_any {S : List Nd} (h : WfN S) : ∀ (f g j : Nat), j < S.length → j < f → j < g → wayF S f j = wayF S g j
 | 0, _, _, _, hf, _ => by omega
 | _ + 1, 0, _, _, _, hg => by omega
 | f + 1, g + 1, j, hj, hf, hg => by
  unfold wayF
  have hs := h j hj
  by_cases c : (ndAt S j).2.1 < 0
  ·rw [if_pos c, if_pos c]
  ·rw [if_neg c, if_neg c, wayF_any h f g (ndAt S j).2.1.toNat (by omega) (by omega) (by omega)]
theorem wayN_step {S : List Nd} (h : WfN S) {j : Nat} (hj : j < S.length) (h0 : ¬ (ndAt S j).2.1 < 0) : wayN S j = wayN S (ndAt S j).2.1.toNat ++ [(ndAt S j).2.2] := by
 have hs := h j hj
 conv => lhs; unfold wayN wayF
 rw [if_neg h0]
 congr 1
 exact wayF_any h _ _ _ (by omega) (by omega) (by omega)
theorem ndAt_app {S : List Nd} {x : Nd} {j : Nat} (hj : j < S.length) : ndAt (S ++ [x]) j = ndAt S j := by
 simp only [ndAt, List.getD_eq_getElem?_getD, List.getElem?_append_left hj]
theorem ndAt_new {S : List Nd} {x : Nd} : ndAt (S ++ [x]) S.length = x := by simp [ndAt, List.getD_eq_getElem?_getD]
theorem pwAt_app {T : List (List Cb × List Int)} {x : List Cb × List Int} {j : Nat} (hj : j < T.length) : pwAt (T ++ [x]) j = pwAt T j := by
 simp only [pwAt, List.getD_eq_getElem?_getD, List.getElem?_append_left hj]
theorem pwAt_new {T : List (List Cb × List Int)} {x : List Cb × List Int} : pwAt (T ++ [x]) T.length = x := by simp [pwAt, List.getD_eq_getElem?_getD]
theorem wayF_app {S : List Nd} (h : WfN S) (x : Nd) : ∀ (f j : Nat), j < S.length → wayF (S ++ [x]) f j = wayF S f j
 | 0, _, _ => rfl
 | f + 1, j, hj => by
  unfold wayF
  rw [ndAt_app hj]
  have hs := h j hj
  by_cases c : (ndAt S j).2.1 < 0
  ·rw [if_pos c, if_pos c]
  ·rw [if_neg c, if_neg c, wayF_app h x f _ (by omega)]
structure RelW (S : List Nd) (T : List (List Cb × List Int)) : Prop where
 wf : WfN S
 pos : S.map Prod.fst = T.map Prod.fst
 way : ∀ j : Nat, j < S.length → wayN S j = (pwAt T j).2
theorem RelW.len {S : List Nd} {T : List (List Cb × List Int)} (h : RelW S T) : S.length = T.length := by
 have := congrArg List.length h.pos
 simpa using this
theorem RelW.at {S : List Nd} {T : List (List Cb × List Int)} (h : RelW S T) (j : Nat) : (ndAt S j).1 = (pwAt T j).1 := by
 have h1 : (S.map Prod.fst).getD j (default : Nd).1 = (T.map Prod.fst).getD j (default : List Cb × List Int).1 := by rw [h.pos]; rfl
 simp only [List.getD_eq_getElem?_getD, List.getElem?_map] at h1
 simp only [ndAt, pwAt, List.getD_eq_getElem?_getD]
 cases hs : S[j]? <;> cases ht : T[j]? <;> rw [hs, ht] at h1 <;> exact h1
theorem RelW.add {S : List Nd} {T : List (List Cb × List Int)} (h : RelW S T) (k : Nat) (hk : k < S.length) (nx : List Cb) (m : Int) : RelW (S ++ [(nx, (k : Int), m)]) (T ++ [(nx, (pwAt T k).2 ++ [m])]) := by
 have hwf : WfN (S ++ [(nx, (k : Int), m)]) := fun j hj => by
  rw [List.length_append, List.length_singleton] at hj
  by_cases c : j < S.length
  ·rw [ndAt_app c]; exact h.wf j c
  ·have : j = S.length := by omega
   subst this
   rw [ndAt_new]
   show (k : Int) < _
   omega
 refine ⟨hwf, by rw [List.map_append, List.map_append, h.pos]; rfl, fun j hj => ?_⟩
 rw [List.length_append, List.length_singleton] at hj
 by_cases c : j < S.length
 ·rw [pwAt_app (by rw [← h.len]; exact c), ← h.way j c]
  exact wayF_app h.wf _ _ j c
 ·have : j = S.length := by omega
  subst this
  have hn : ndAt (S ++ [(nx, (k : Int), m)]) S.length = (nx, (k : Int), m) := ndAt_new
  rw [wayN_step hwf (by rw [List.length_append, List.length_singleton]; omega) (by rw [hn]; show ¬ (k : Int) < 0; omega), hn]
  dsimp only
  rw [Int.toNat_natCast, show wayN (S ++ [(nx, (k : Int), m)]) k = wayN S k from wayF_app h.wf _ _ k hk, h.way k hk, h.len, pwAt_new]
def RelO (k : Nat) (y : List Cb × List Int) : Option (List Nd) → Option (List (List Cb × List Int)) → Prop
 | none, none => True
 | some S, some T => RelW S T ∧ k < S.length ∧ pwAt T k = y
 | _, _ => False
theorem visit_rel {S : List Nd} {T : List (List Cb × List Int)} (h : RelW S T) (k : Nat) (hk : k < S.length) (o : List Cb) (m : Int) : RelO k (pwAt T k) (visitP o k S m) (visitW o (pwAt T k).2 T m) := by
 unfold visitP visitW
 rw [← h.pos, ← h.len]
 by_cases c1 : (movedP o m).any (fun c => !inCb c (-3) 3) = true
 ·rw [if_pos c1, if_pos c1]; exact ⟨h, hk, rfl⟩
 ·rw [if_neg c1, if_neg c1]
  by_cases c2 : (S.map Prod.fst).contains (movedP o m) = true
  ·rw [if_pos c2, if_pos c2]; exact ⟨h, hk, rfl⟩
  ·rw [if_neg c2, if_neg c2]
   by_cases c3 : S.length = 1200
   ·rw [if_pos c3, if_pos c3]; trivial
   ·rw [if_neg c3, if_neg c3]
    exact ⟨h.add k hk _ m, by rw [List.length_append]; omega, pwAt_app (by rw [← h.len]; exact hk)⟩
theorem fold_rel (o : List Cb) (k : Nat) (y : List Cb × List Int) : ∀ (ms : List Int) (S : List Nd) (T : List (List Cb × List Int)), RelW S T → k < S.length → pwAt T k = y → RelO k y (ms.foldlM (visitP o k) S) (ms.foldlM (visitW o y.2) T)
 | [], S, T, h, hk, hy => ⟨h, hk, hy⟩
 | m :: ms, S, T, h, hk, hy => by
  rw [List.foldlM_cons, List.foldlM_cons]
  have h1 := visit_rel h k hk o m
  rw [hy] at h1
  cases hs : visitP o k S m with
  | none =>
   cases ht : visitW o y.2 T m with
   | none => trivial
   | some T' => rw [hs, ht] at h1; exact h1.elim
  | some S' =>
   cases ht : visitW o y.2 T m with
   | none => rw [hs, ht] at h1; exact h1.elim
   | some T' => rw [hs, ht] at h1; exact fold_rel o k y ms S' T' h1.1 h1.2.1 h1.2.2
def searchX (parts : List (List Cb)) (ex : List Cb → Bool) : Nat → List Nd → Nat → Option (List Nd × Int)
 | 0, S, _ => some (S, -1)
 | f + 1, S, k => if k < S.length then (if ex (ndAt S k).1 = true then some (S, (k : Int)) else (spreadP parts (ndAt S k).1 k S).bind (fun S' => searchX parts ex f S' (k + 1))) else some (S, -1)
def RelX : Option (List Nd × Int) → Option (List (List Cb × List Int) × Int) → Prop
 | none, none => True
 | some (S, i), some (T, j) => RelW S T ∧ i = j ∧ (i = -1 ∨ ∃ k : Nat, i = (k : Int) ∧ k < S.length)
 | _, _ => False
theorem search_rel (parts : List (List Cb)) (ex : List Cb → Bool) : ∀ (f : Nat) (S : List Nd) (T : List (List Cb × List Int)) (k : Nat), RelW S T → RelX (searchX parts ex f S k) (searchW parts ex f T k)
 | 0, S, T, k, h => ⟨h, rfl, .inl rfl⟩
 | f + 1, S, T, k, h => by
  unfold searchX searchW
  rw [← h.len]
  by_cases c : k < S.length
  ·rw [if_pos c, if_pos c]
   rw [show (T.getD k default).1 = (ndAt S k).1 from (h.at k).symm]
   by_cases e : ex (ndAt S k).1 = true
   ·rw [if_pos e, if_pos e]; exact ⟨h, rfl, .inr ⟨k, rfl, c⟩⟩
   ·rw [if_neg e, if_neg e]
    have h1 := fold_rel (ndAt S k).1 k (pwAt T k) (movesP parts (ndAt S k).1) S T h c rfl
    unfold spreadP
    cases hs : (movesP parts (ndAt S k).1).foldlM (visitP (ndAt S k).1 k) S with
    | none =>
     cases ht : (movesP parts (ndAt S k).1).foldlM (visitW (ndAt S k).1 (pwAt T k).2) T with
     | none => trivial
     | some T' => rw [hs, ht] at h1; exact h1.elim
    | some S' =>
     cases ht : (movesP parts (ndAt S k).1).foldlM (visitW (ndAt S k).1 (pwAt T k).2) T with
     | none => rw [hs, ht] at h1; exact h1.elim
     | some T' =>
      rw [hs, ht] at h1
      exact search_rel parts ex f S' T' (k + 1) h1.1
  ·rw [if_neg c, if_neg c]; exact ⟨h, rfl, .inl rfl⟩
theorem rel_start (n : Nat) : RelW [(zerosC n, -1, 0)] [(zerosC n, [])] := by
 refine ⟨fun j hj => ?_, rfl, fun j hj => ?_⟩
 ·have : j = 0 := by simpa using hj
  subst this
  show (-1 : Int) < 0
  omega
 ·have : j = 0 := by simpa using hj
  subst this
  rfl
theorem searchX_no (parts : List (List Cb)) : ∀ (f : Nat) (S : List Nd) (k : Nat), searchX parts (exB parts false) f S k = (searchN parts f S k).map (fun S' => (S', (-1 : Int)))
 | 0, S, k => rfl
 | f + 1, S, k => by
  unfold searchX searchN
  by_cases c : k < S.length
  ·rw [if_pos c, if_pos c, if_neg (show ¬ exB parts false (ndAt S k).1 = true by simp [exB])]
   show (spreadP parts (ndAt S k).1 k S).bind _ = Option.map _ ((spreadP parts (ndAt S k).1 k S).bind _)
   cases spreadP parts (ndAt S k).1 k S with
   | none => rfl
   | some S' => exact searchX_no parts f S' (k + 1)
  ·rw [if_neg c, if_neg c]; rfl
theorem states_same (sol con : List Cb → Bool) (parts : List (List Cb)) : statesP sol con parts = statesS (isAsmP sol con parts) parts := by
 unfold statesP statesS
 by_cases c : isAsmP sol con parts = true
 ·rw [if_pos c, if_pos c]
  have h := search_rel parts (exB parts false) 1201 _ _ 0 (rel_start parts.length)
  rw [searchX_no] at h
  unfold searchP
  cases hs : searchN parts 1201 [(zerosC parts.length, -1, 0)] 0 with
  | none =>
   rw [hs] at h
   cases ht : searchW parts (exB parts false) 1201 [(zerosC parts.length, [])] 0 with
   | none => rfl
   | some r => rw [ht] at h; exact h.elim
  | some S =>
   rw [hs] at h
   cases ht : searchW parts (exB parts false) 1201 [(zerosC parts.length, [])] 0 with
   | none => rw [ht] at h; exact h.elim
   | some r =>
    rw [ht] at h
    obtain ⟨T, j⟩ := r
    dsimp only
    rw [h.1.len]
 ·rw [if_neg c, if_neg c]
theorem clear_ev (parts : List (List Cb)) (offs : List Cb) (hl : offs.length = parts.length) (h1 : 1 ≤ parts.length) (h8 : parts.length ≤ 8) (hsz : ∀ p ∈ parts, p.length ≤ 1048576) (hp : ∀ p ∈ parts, ∀ c ∈ p, inCb c 0 7 = true) :
  Ev (fun k => spec_l27Clear.f k parts offs) (areOffP parts offs) := Ev.val fun k => by unfold spec_l27Clear.f; rw [if_pos ⟨⟨h1, h8⟩, hsz, hp⟩]
theorem shl_eq (n : Nat) (h : n ≤ 8) : shl .i64 6 (IntKind.u64.wrap (n : Int)) = ((6 * 2 ^ n : Nat) : Int) := (i64_w _).trans (pow6_len n h)
theorem odd_eq (m : Nat) (h6 : 6 ≤ m) (hm : m ≤ 1000000) : ((wrap64 (Int.tdiv (m : Int) 6)).tmod 2 == 1) = decide (m / 6 % 2 = 1) := by
 rw [set_of (m : Int) (by omega) (by omega), Int.toNat_natCast, show (((m / 6 : Nat) : Int)).tmod 2 = ((m / 6 % 2 : Nat) : Int) from rfl]
 rw [Bool.eq_iff_iff, beq_iff_eq, decide_eq_true_eq]
 omega
theorem poss_ev (parts : List (List Cb)) (o : List Cb) (hl : o.length = parts.length) (h1 : 1 ≤ parts.length) (h8 : parts.length ≤ 8) (hsz : ∀ p ∈ parts, p.length ≤ 1048576) (hp : ∀ p ∈ parts, ∀ c ∈ p, inCb c 0 7 = true) (m : Nat) (h6 : 6 ≤ m) (hT : m < 6 * 2 ^ parts.length) :
  Ev (fun k => spec_l27Possible.f k parts o (m : Int)) (isMv parts.length (m : Int) && possP parts o (m : Int)) := by
 have hpw := pow_le8 parts.length h8
 have hsh := shl_eq parts.length h8
 have hmv : isMv parts.length (m : Int) = decide (m / 6 % 2 = 0) := by
  unfold isMv
  rw [pow_int]
  generalize 2 ^ parts.length = N2 at hT hpw
  rw [decide_eq_true (show (6 : Int) ≤ (m : Int) by omega), decide_eq_true (show (m : Int) < 6 * (N2 : Int) by omega), Bool.true_and, Bool.true_and, decide_eq_decide]
  omega
 have hf : ∀ k, spec_l27Possible.f k parts o (m : Int) = spec_l27Possible.j0 k o (m : Int) (decide (m / 6 % 2 = 1)) parts := fun k => by
  unfold spec_l27Possible.f
  rw [if_pos (u64_nn _ h8), hsh, in_eq, Option.bind_some]
  generalize 2 ^ parts.length = N2 at hT hpw
  rw [wrap_id (by omega) (by omega), show inR (m : Int) 6 (((6 * N2 : Nat) : Int) - 1) = true by unfold inR; rw [Bool.and_eq_true, decide_eq_true_eq, decide_eq_true_eq]; omega, if_pos rfl, odd_eq m h6 (by omega)]
 refine Ev.congr hf ?_
 rw [hmv]
 by_cases c : m / 6 % 2 = 1
 ·rw [decide_eq_true c, decide_eq_false (show ¬ m / 6 % 2 = 0 by omega), Bool.false_and]
  exact Ev.step (f := fun _ => some false) (fun k => by simp only [spec_l27Possible.j0, if_true]) (Ev.now _)
 ·rw [decide_eq_false c, decide_eq_true (show m / 6 % 2 = 0 by omega), Bool.true_and]
  refine Ev.step (f := fun k => (spec_l27After.f k o (m : Int)).bind fun t412 => ((spec_l27Clear.f k parts t412).bind fun t415 => (some t415))) (fun k => by simp only [spec_l27Possible.j0, Bool.false_eq_true, if_false]) ?_
  refine Ev.bind (after_ev o (m : Int) (by omega) (by omega) (by generalize 2 ^ parts.length = N2 at hT hpw; omega)) ?_
  exact Ev.bind (clear_ev parts (movedP o (m : Int)) (by rw [movedP_len]; exact hl) h1 h8 hsz hp) (Ev.val fun k => rfl)
theorem movesK_low (parts : List (List Cb)) (o : List Cb) (m : Nat) (h : m ≤ 12) : movesK parts o m = [] := by
 unfold movesK
 rw [List.map_eq_nil_iff, List.filter_eq_nil_iff]
 intro a ha
 have := List.mem_range.1 ha
 rw [decide_eq_false (by omega), Bool.false_and]
 simp
theorem movesK_step (parts : List (List Cb)) (o : List Cb) (m : Nat) (h : 6 ≤ m) : movesK parts o (m + 1) = movesK parts o m ++ (if (isMv parts.length (m : Int) && possP parts o (m : Int)) = true then [(m : Int)] else []) := by
 by_cases c : 12 ≤ m
 ·exact movesK_succ parts o m c
 ·rw [movesK_low parts o (m + 1) (by omega), movesK_low parts o m (by omega)]
  have : isMv parts.length (m : Int) = false := by
   unfold isMv
   rw [show decide ((m : Int) / 6 % 2 = 0) = false from decide_eq_false (by omega), Bool.and_false, Bool.and_false]
  rw [this, Bool.false_and, if_neg (by simp)]
  rfl
theorem smoves_ev (parts : List (List Cb)) (o : List Cb) (hl : o.length = parts.length) (h1 : 1 ≤ parts.length) (h8 : parts.length ≤ 8) (hsz : ∀ p ∈ parts, p.length ≤ 1048576) (hp : ∀ p ∈ parts, ∀ c ∈ p, inCb c 0 7 = true) :
  Ev (fun k => spec_l27Moves.f k parts o) (movesP parts o) := by
 have hpw := pow_le8 parts.length h8
 have hp1 : 1 ≤ 2 ^ parts.length := Nat.pos_of_ne_zero (by simp)
 have hsh := shl_eq parts.length h8
 have hnn := u64_nn parts.length h8
 obtain ⟨T, hTd⟩ : ∃ T, T = 6 * 2 ^ parts.length := ⟨_, rfl⟩
 have hT1 : 6 ≤ T ∧ T ≤ 1536 := by
  rw [hTd]
  generalize 2 ^ parts.length = N2 at hpw hp1
  omega
 rw [← hTd] at hsh
 obtain ⟨r, hr, hk⟩ : ∃ r, r = movesP parts o ∧ Ev (fun k => spec_l27Moves.l0 k o [] ((6 : Nat) : Int) parts) r := by
  refine ev_inv T (fun (s : List Int) j => 6 ≤ j ∧ s = movesK parts o j) (fun r => r = movesP parts o) (fun s i k => spec_l27Moves.l0 k o s i parts) (fun s hI => ?_) (fun s j hj hI => ?_) (T - 6) 6 [] (by omega) ⟨Nat.le_refl _, (movesK_low parts o 6 (by omega)).symm⟩
  ·refine ⟨s, ?_, Ev.step (f := fun _ => some s) (fun k => by simp only [spec_l27Moves.l0, hnn, hsh, if_true]; rw [if_neg (by omega)]) (Ev.now _)⟩
   rw [hI.2, hTd]
   rfl
  ·have c6 := hI.1
   have hs := hI.2
   have hw := wrap_succ j (show j < 9223372036854775807 by omega)
   have hsl : s.length < 17592186044416 := by
    rw [hs]
    have := movesK_len parts o j
    omega
   have hpe := poss_ev parts o hl h1 h8 hsz hp j c6 (by rw [← hTd]; exact hj)
   have hst := movesK_step parts o j c6
   refine .inr ⟨movesK parts o (j + 1), ⟨by omega, rfl⟩, fun r h2 => ?_⟩
   refine Ev.step (f := fun k => (spec_l27Possible.f k parts o (j : Int)).bind fun t420 => if t420 = true then spec_l27Moves.l0 k o (s ++ [(j : Int)]) ((j + 1 : Nat) : Int) parts else spec_l27Moves.l0 k o s ((j + 1 : Nat) : Int) parts) (fun k => ?_) (Ev.bind hpe ?_)
   ·simp only [spec_l27Moves.l0, hnn, hsh, hsl, hw, if_true, show (j : Int) < (T : Int) from by omega]
   ·cases hb : isMv parts.length (j : Int) && possP parts o (j : Int) with
    | true =>
     rw [hst, hb, if_pos rfl, ← hs] at h2
     exact h2
    | false =>
     rw [hst, hb, if_neg (by simp), List.append_nil, ← hs] at h2
     exact h2
 rw [← hr]
 exact hk
def spec_l09Solid.f (k : Nat) (l : List Cb) : Option Bool := if l.length ≤ 1048576 then some (solP l) else none
def ssoF.T4 : Bool × List (List Nat × List Nat) := (true, [([], []), ([], []), ([0, 1], [0, 1]), ([2], [2]), ([3], [3]), ([4], [4]), ([5, 4], [5]), ([6], [6]), ([7, 6], [6, 7]), ([8, 6, 6], [6, 8]), ([9], [9]), ([9], [9]), ([11, 9], [9, 11]), ([10, 12, 9], [9, 10, 12]), ([13, 9], [9, 13]), ([9], [9]), ([9], [9]), ([15, 16, 9], [9, 15, 16]), ([17, 9], [9, 17]), ([14, 18, 9, 9], [9, 14, 18]), ([19, 9], [9, 19]), ([9, 20, 6], [6, 9, 20]), ([6, 21], [6, 21])])
def ssoF.B4 : List Nat := [0, 0, 3, 7, 15, 31, 63, 127, 255, 511, 1023, 1023, 3071, 8191, 16383, 1023, 1023, 99327, 230399, 524287, 1048575, 2097151, 4194303]
theorem ssoF.tab4 : rtab .any (opsOf Try.f84 4) = ssoF.T4 := by kernel_rfl
theorem ssoF.bits4 : waitsOk ssoF.T4.2 ssoF.B4 = true := by kernel_rfl
set_option maxHeartbeats 4000000 in
set_option maxRecDepth 100000 in
theorem spec_l09Solid.calls (k : Nat) (A0 : Option Addr) (c0 : Nat) (l : List Cb) (r : Bool) (w : World) (hr0 : Kd.C k94 w A0 l.length l) (hc0 : l.length ≤ c0) (h : spec_l09Solid.f k l = some r) :
    Calls Try.prog 84 #[.slice A0 l.length c0] w fun e w' => e = .returned (.bool r) ∧ Below w.heap.size w w' := by
 (have hu69 := Try.underlying94); (unfold spec_l09Solid.f at h); (split at h)
 case isFalse => cases h
 (rename_i hz); (obtain rfl := Option.some.inj h); (have HR0 := A0_ hr0); (have HZ := A0_ hz); (have HS := A0_ (Sp.start w)); clear hr0 hz h; (go_enter Try.func84, Try.ntmps84); go_wp2
 go_loopg [3] (l.length + 1) (fun kq v3 w' => ∃ (i : Nat), v3 = .int .i64 (i : Int) ∧ Aside0 (i ≤ l.length ∧ kq + i = l.length + 1 ∧ (List.range i).all (solStep l) = true) ∧ Aside0 (Sp w [] w'))
 case atStart => exact ⟨0, rfl, ⟨by omega, by omega, rfl⟩, HS⟩
 case round =>
  clear HS; (obtain ⟨i, rfl, HX, HS⟩ := hrel); (obtain ⟨k1, rfl⟩ : ∃ k1, gk = k1 + 1 := ⟨gk - 1, by have := HX.out; omega⟩); (by_cases ci : i < l.length)
  ·(have ci0 : decide (i < l.length) = true := decide_eq_true ci); (have q0 : (0 ≤ (i : Int)) = True := eq_true (by omega)); (have q1 : ((i : Int) < (l.length : Int)) = True := eq_true (by omega)); (have q2 : (i < l.length) = True := eq_true ci); (have HW := A0_ (wrap_succ i (by have := HZ.out; omega))); (have HNO := A0_ (solP_no l i ci)); (have HNX := A0_ (solP_next l i HX.out.2.2)); (obtain ⟨adl, e, hx0, hx1, hx2⟩ := at_T94 HR0.out (i : Int) (by omega) (by omega)); subst e; (rw [show rd_T94 l (i : Int) = cAt l i from rfl] at hx0 hx1 hx2); (rw [Int.toNat_natCast] at hx0 hx1 hx2); (have hss : solStep l i = (inCb (cAt l i) (-100) 100 && (decide (i = 0) || lessC (cAt l (i - 1)) (cAt l i))) := rfl); (rw [hss] at HNO HNX); clear hss; (have HCI := A0_ ci); (obtain ⟨c, hc⟩ : ∃ c, c = cAt l i := ⟨_, rfl⟩); (rw [← hc] at hx0 hx1 hx2 HNO HNX); (have HC0 := A0_ hx0); (have HC1 := A0_ hx1); (have HC2 := A0_ hx2); clear ci hc hx0 hx1 hx2; (replace HS := A0_ (show Sp w (([] : List Res) ++ ([] : List Res)) wr.drew from Sp.drew HS.out))
   cases b : inCb c (-100) 100 with
   | false =>
    (have HB := A0_ ((cube_eq c).trans (congrArg some b))); (have HF := A0_ (HNO.out (by rw [b]; rfl))); clear HNO HNX b; go_wp2
    refine start_ (n := 23) (S := fun w' => w'.cell? (adl.add (i * 3)) = some (.int .i64 c.f0) ∧ w'.cell? ⟨(adl.add (i * 3)).block, (adl.add (i * 3)).off + 1, none⟩ = some (.int .i64 c.f1) ∧ w'.cell? ⟨(adl.add (i * 3)).block, (adl.add (i * 3)).off + 2, none⟩ = some (.int .i64 c.f2)) (ds := []) #[ff,ff,ff,ff,ff,ff,ff,ff,ff,ff,ff,ff,ff,ff,ff,ff,ff,ff,ff,ff,ff,ff,ff] (by kernel_rfl) rfl rfl (⟨pw_cell_below HS.out.below HC0.out, pw_cell_below HS.out.below HC1.out, pw_cell_below HS.out.below HC2.out⟩) (fun hHeld => ?_)
    refine with_tabW ssoF.tab4 ssoF.bits4 (fun HT_ HW_ => ?_)
    (generalize wr.drew = wD at HS hHeld ⊢); (refine on_ 0 (some 10) ?_); (refine on_ 1 (some 11) ?_); (refine on_ 2 (some 12) ?_); (refine tk_ 3 (some 13) ?_)
    refine o1_ 4 (some 14) (fun K hK => ?_)
    (refine gs_ Try.func108 #[.agg #[.int .i64 c.f0, .int .i64 c.f1, .int .i64 c.f2]] ?_); (refine (spec_l09Cube.calls c.f0 c.f1 c.f2 false _ HB.out).mono ?_); (rintro e wA11 ⟨rfl, hb⟩); (refine ⟨_, rfl, ?_⟩); (replace HS := A0_ (Sp.far HS.out hb)); clear hb
    refine hK.out _ _ (⟨pw_cell_below HS.out.below HC0.out, pw_cell_below HS.out.below HC1.out, pw_cell_below HS.out.below HC2.out⟩) (fun hHeld => ?_)
    clear hK K; (refine nm_ (some 14) ?_); (refine on_ 5 (some 15) ?_); (refine on_ 6 (some 16) ?_); (refine of_ 7 (some 17) ?_); (refine of_ 8 (some 18) ?_); (refine of_ 9 (some 19) ?_); (refine of_ 10 (some 20) ?_); (refine of_ 11 (some 21) ?_); (refine of_ 12 (some 22) ?_); (refine of_ 13 (some 23) ?_); (refine of_ 14 (some 24) ?_); (refine of_ 15 (some 25) ?_); (refine of_ 16 (some 26) ?_); (refine of_ 17 (some 27) ?_); (refine of_ 18 (some 28) ?_); (refine of_ 19 (some 29) ?_); (refine of_ 20 (some 30) ?_); (refine of_ 21 (some 31) ?_); (refine on_ 22 (some 32) ?_); (refine dn_ ?_); go_wp2; go_ret; (exact ⟨by rw [HF.out]; rfl, HS.out.below⟩)
   | true =>
    (have HB := A0_ ((cube_eq c).trans (congrArg some b))); (rw [b, Bool.true_and] at HNO HNX); clear b; (by_cases hi0 : i = 0)
    ·(have HN := A0_ (HNX.out (by rw [decide_eq_true hi0]; rfl))); (have d0 : decide (0 < i) = false := decide_eq_false (by omega)); (have d1 : (0 < i) = False := eq_false (by omega)); (have d2 : decide ((0 : Int) < (i : Int)) = false := decide_eq_false (by omega)); (have d3 : ((0 : Int) < (i : Int)) = False := eq_false (by omega)); clear HNO HNX hi0; go_wp2
     refine start_ (n := 23) (S := fun w' => w'.cell? (adl.add (i * 3)) = some (.int .i64 c.f0) ∧ w'.cell? ⟨(adl.add (i * 3)).block, (adl.add (i * 3)).off + 1, none⟩ = some (.int .i64 c.f1) ∧ w'.cell? ⟨(adl.add (i * 3)).block, (adl.add (i * 3)).off + 2, none⟩ = some (.int .i64 c.f2)) (ds := []) #[ff,ff,ff,ff,ff,ff,ff,ff,ff,ff,ff,ff,ff,ff,ff,ff,ff,ff,ff,ff,ff,ff,ff] (by kernel_rfl) rfl rfl (⟨pw_cell_below HS.out.below HC0.out, pw_cell_below HS.out.below HC1.out, pw_cell_below HS.out.below HC2.out⟩) (fun hHeld => ?_)
     refine with_tabW ssoF.tab4 ssoF.bits4 (fun HT_ HW_ => ?_)
     (generalize wr.drew = wD at HS hHeld ⊢); (refine on_ 0 (some 10) ?_); (refine on_ 1 (some 11) ?_); (refine on_ 2 (some 12) ?_); (refine tk_ 3 (some 13) ?_)
     refine o1_ 4 (some 14) (fun K hK => ?_)
     (refine gs_ Try.func108 #[.agg #[.int .i64 c.f0, .int .i64 c.f1, .int .i64 c.f2]] ?_); (refine (spec_l09Cube.calls c.f0 c.f1 c.f2 true _ HB.out).mono ?_); (rintro e wA11 ⟨rfl, hb⟩); (refine ⟨_, rfl, ?_⟩); (replace HS := A0_ (Sp.far HS.out hb)); clear hb
     refine hK.out _ _ (⟨pw_cell_below HS.out.below HC0.out, pw_cell_below HS.out.below HC1.out, pw_cell_below HS.out.below HC2.out⟩) (fun hHeld => ?_)
     clear hK K; (refine nm_ (some 14) ?_); (refine on_ 5 (some 15) ?_); (refine on_ 6 (some 16) ?_); (refine on_ 7 (some 17) ?_); (refine on_ 8 (some 18) ?_); (refine on_ 9 (some 19) ?_); (refine of_ 10 (some 20) ?_); (refine of_ 11 (some 21) ?_); (refine of_ 12 (some 22) ?_); (refine of_ 13 (some 23) ?_); (refine of_ 14 (some 24) ?_); (refine of_ 15 (some 25) ?_); (refine of_ 16 (some 26) ?_); (refine of_ 17 (some 27) ?_); (refine of_ 18 (some 28) ?_); (refine of_ 19 (some 29) ?_); (refine of_ 20 (some 30) ?_); (refine on_ 21 (some 31) ?_); (refine on_ 22 (some 32) ?_); (refine dn_ ?_); go_wp2; (go_roundg k1)
     case measure => omega
     case rel =>
      (rw [HW.out]); (exact ⟨i + 1, rfl, ⟨by have := HCI.out; omega, by have := HX.out; omega, HN.out⟩, HS⟩)
    ·(have d0 : decide (0 < i) = true := decide_eq_true (by omega)); (have d1 : (0 < i) = True := eq_true (by omega)); (have d2 : decide ((0 : Int) < (i : Int)) = true := decide_eq_true (by omega)); (have d3 : ((0 : Int) < (i : Int)) = True := eq_true (by omega)); (have e1 : wrap64 ((i : Int) - 1) = ((i - 1 : Nat) : Int) := by rw [wrap_id (by omega) (by have := HZ.out; have := HCI.out; omega)]; omega); (have p0 : (0 ≤ ((i - 1 : Nat) : Int)) = True := eq_true (by omega)); (have p1 : (((i - 1 : Nat) : Int) < (l.length : Int)) = True := eq_true (by have := HCI.out; omega)); (have p2 : (i - 1 < l.length) = True := eq_true (by have := HCI.out; omega)); (rw [decide_eq_false hi0, Bool.false_or] at HNO HNX); (obtain ⟨ad2, e, hx0, hx1, hx2⟩ := at_T94 HR0.out ((i - 1 : Nat) : Int) (by omega) (by have := HCI.out; omega)); (injection e with e); subst e; (rw [show rd_T94 l ((i - 1 : Nat) : Int) = cAt l (i - 1) from rfl] at hx0 hx1 hx2); (rw [Int.toNat_natCast] at hx0 hx1 hx2); (obtain ⟨q, hq⟩ : ∃ q, q = cAt l (i - 1) := ⟨_, rfl⟩); (rw [← hq] at hx0 hx1 hx2 HNO HNX); (have HQ0 := A0_ hx0); (have HQ1 := A0_ hx1); (have HQ2 := A0_ hx2); (obtain ⟨t, ht⟩ : ∃ t, t = lessC q c := ⟨_, rfl⟩); (rw [← ht] at HNO HNX); (have HL := A0_ ((less_eq q c).trans (congrArg some ht.symm))); clear hx0 hx1 hx2 hq ht hi0; go_wp2
     refine start_ (n := 23) (S := fun w' => w'.cell? (adl.add (i * 3)) = some (.int .i64 c.f0) ∧ w'.cell? ⟨(adl.add (i * 3)).block, (adl.add (i * 3)).off + 1, none⟩ = some (.int .i64 c.f1) ∧ w'.cell? ⟨(adl.add (i * 3)).block, (adl.add (i * 3)).off + 2, none⟩ = some (.int .i64 c.f2) ∧ w'.cell? (adl.add ((i - 1) * 3)) = some (.int .i64 q.f0) ∧ w'.cell? ⟨(adl.add ((i - 1) * 3)).block, (adl.add ((i - 1) * 3)).off + 1, none⟩ = some (.int .i64 q.f1) ∧ w'.cell? ⟨(adl.add ((i - 1) * 3)).block, (adl.add ((i - 1) * 3)).off + 2, none⟩ = some (.int .i64 q.f2)) (ds := []) #[ff,ff,ff,ff,ff,ff,ff,ff,ff,ff,ff,ff,ff,ff,ff,ff,ff,ff,ff,ff,ff,ff,ff] (by kernel_rfl) rfl rfl (⟨pw_cell_below HS.out.below HC0.out, pw_cell_below HS.out.below HC1.out, pw_cell_below HS.out.below HC2.out, pw_cell_below HS.out.below HQ0.out, pw_cell_below HS.out.below HQ1.out, pw_cell_below HS.out.below HQ2.out⟩) (fun hHeld => ?_)
     refine with_tabW ssoF.tab4 ssoF.bits4 (fun HT_ HW_ => ?_)
     (generalize wr.drew = wD at HS hHeld ⊢); (refine on_ 0 (some 10) ?_); (refine on_ 1 (some 11) ?_); (refine on_ 2 (some 12) ?_); (refine tk_ 3 (some 13) ?_)
     refine o1_ 4 (some 14) (fun K hK => ?_)
     (refine gs_ Try.func108 #[.agg #[.int .i64 c.f0, .int .i64 c.f1, .int .i64 c.f2]] ?_); (refine (spec_l09Cube.calls c.f0 c.f1 c.f2 true _ HB.out).mono ?_); (rintro e wA11 ⟨rfl, hb⟩); (refine ⟨_, rfl, ?_⟩); (replace HS := A0_ (Sp.far HS.out hb)); clear hb
     refine hK.out _ _ (⟨pw_cell_below HS.out.below HC0.out, pw_cell_below HS.out.below HC1.out, pw_cell_below HS.out.below HC2.out, pw_cell_below HS.out.below HQ0.out, pw_cell_below HS.out.below HQ1.out, pw_cell_below HS.out.below HQ2.out⟩) (fun hHeld => ?_)
     clear hK K; (refine nm_ (some 14) ?_); (refine on_ 5 (some 15) ?_); (refine on_ 6 (some 16) ?_); (refine on_ 7 (some 17) ?_); (refine on_ 8 (some 18) ?_); (refine on_ 9 (some 19) ?_); (refine on_ 10 (some 20) ?_); (refine on_ 11 (some 21) ?_); (refine on_ 12 (some 22) ?_); (refine on_ 13 (some 23) ?_); (refine tk_ 14 (some 24) ?_); (refine on_ 15 (some 25) ?_); (refine on_ 16 (some 26) ?_); (refine on_ 17 (some 27) ?_); (refine tk_ 18 (some 28) ?_)
     refine o1_ 19 (some 29) (fun K hK => ?_)
     (refine gs_ Try.func109 #[.agg #[.int .i64 q.f0, .int .i64 q.f1, .int .i64 q.f2], .agg #[.int .i64 c.f0, .int .i64 c.f1, .int .i64 c.f2]] ?_); (refine (spec_l09Less.calls q.f0 q.f1 q.f2 c.f0 c.f1 c.f2 t _ HL.out).mono ?_); (rintro e wA12 ⟨rfl, hb⟩); (refine ⟨_, rfl, ?_⟩); (replace HS := A0_ (Sp.far HS.out hb)); clear hb
     refine hK.out _ _ (⟨pw_cell_below HS.out.below HC0.out, pw_cell_below HS.out.below HC1.out, pw_cell_below HS.out.below HC2.out, pw_cell_below HS.out.below HQ0.out, pw_cell_below HS.out.below HQ1.out, pw_cell_below HS.out.below HQ2.out⟩) (fun hHeld => ?_)
     clear hK K; (refine nm_ (some 29) ?_); (refine on_ 20 (some 30) ?_); (refine on_ 21 (some 31) ?_); (refine on_ 22 (some 32) ?_); (refine dn_ ?_)
     cases t with
     | true =>
      (have HN := A0_ (HNX.out rfl)); go_wp2; (go_roundg k1)
      case measure => omega
      case rel =>
       (rw [HW.out]); (exact ⟨i + 1, rfl, ⟨by have := HCI.out; omega, by have := HX.out; omega, HN.out⟩, HS⟩)
     | false =>
      (have HF := A0_ (HNO.out rfl)); go_wp2; go_ret; (exact ⟨by rw [HF.out]; rfl, HS.out.below⟩)
  ·(have ci0 : decide (i < l.length) = false := decide_eq_false ci); (have ci1 : (i < l.length) = False := eq_false ci); (have hi : i = l.length := by have := HX.out; omega); (have HF := A0_ ((in_eq (l.length : Int) 1 24).trans (congrArg some (solP_end l (hi ▸ HX.out.2.2)).symm))); clear ci hi
   go_wp2_with (first
    | (go_at_call 64; refine (spec_l01In.calls (l.length : Int) 1 24 (solP l) _ HF.out).mono ?_; rintro e wc_ ⟨rfl, hb_⟩; replace HS := A0_ (Sp.far HS.out hb_.below); clear hb_))
   go_ret; (exact ⟨rfl, HS.out.below⟩)
end Go.Proofs.Ytcobnlilmihjfaa.A

namespace Go.Proofs.Ytcobnlilmihjfaa.A
open Go.RowKit Go.Proofs.YtcobnlilmihjfaaW.PrintWords Go.Proofs.YtcobnlilmihjfaaW.PrintLast Go.Proofs.YtcobnlilmihjfaaW.PrintMore
set_option linter.unusedVariables false
set_option linter.unusedSimpArgs false
theorem isolid_ev (l : List Cb) (h : l.length ≤ 1048576) : Ev (fun k => impl_isSolid.f k l) (solP l) := Ev.val fun k => by unfold impl_isSolid.f; rw [if_pos h]
theorem addO_sub {l o : List Cb} (h : ∀ c ∈ o, c ∈ l) (c : Cb) : ∀ x ∈ addO l o c, x ∈ l := by
 unfold addO
 split
 case isFalse => exact h
 rename_i hb
 rw [Bool.and_eq_true, List.contains_iff_mem] at hb
 intro x hx
 rcases List.mem_append.1 hx with hx | hx
 ·exact h x hx
 ·rw [List.mem_singleton.1 hx]; exact hb.1
theorem expI_sub {l o : List Cb} (h : ∀ c ∈ o, c ∈ l) (c : Cb) : ∀ i, i ≤ 6 → ∀ x ∈ expI l o c i, x ∈ l
 | 0, _ => h
 | i + 1, hi => by
  rw [expI_succ l o c i (by omega)]
  exact addO_sub (expI_sub h c i (by omega)) _
theorem around_eq (c : Cb) (h : inCb c (-100) 100 = true) : impl_cubesAround.f c.f0 c.f1 c.f2 = some (stepsC.map (addC c)) := by
 rw [inCb_iff] at h
 unfold impl_cubesAround.f stepsC addC
 simp only [List.map_cons, List.map_nil]
 have w0 : ∀ x : Int, -100 ≤ x → x ≤ 100 → wrap64 (x + 0) = x := fun x h1 h2 => by rw [Int.add_zero]; exact wrap_id (by omega) (by omega)
 rw [w0 _ h.1.1 h.1.2, w0 _ h.2.1.1 h.2.1.2, w0 _ h.2.2.1 h.2.2.2]
 rfl
theorem con_in (l : List Cb) (h : l.length ≤ 1048576) (o c nb) (hnb : nb = stepsC.map (addC c)) (hf : FitO l o) (k : Int) (R : Bool) (hR : Ev (fun n => impl_connectedCubes.l0 n l (expI l o c 6) (wrap64 (k + 1))) R) :
  ∀ (j i : Nat), i + j = 6 → Ev (fun n => impl_connectedCubes.l1 n l (expI l o c i) k nb (nb.length : Int) (i : Int)) R
 | 0, i, hi => by
  have : i = 6 := by omega
  subst this
  refine Ev.step (f := fun n => impl_connectedCubes.l0 n l (expI l o c 6) (wrap64 (k + 1))) (fun n => ?_) hR
  have hl : nb.length = 6 := by rw [hnb]; rfl
  simp only [impl_connectedCubes.l1]
  rw [if_neg (by omega)]
 | j + 1, i, hi => by
  have ih := con_in l h o c nb hnb hf k R hR j (i + 1) (by omega)
  have hl : nb.length = 6 := by rw [hnb]; rfl
  have hi6 : i < 6 := by omega
  have hx : rd_T94 nb (i : Int) = addC c (cAt stepsC i) := by
   subst hnb
   have hs : i < (stepsC.map (addC c)).length := hi6
   have hs2 : i < stepsC.length := hi6
   unfold rd_T94 cAt
   rw [getD_nat _ _ i hs, List.getElem_map, List.getD_eq_getElem?_getD, List.getElem?_eq_getElem hs2]
   rfl
  have hw := wrap_succ i (by omega)
  have hsz := (FitO.exp hf c i (by omega)).len
  have hes := expI_succ l o c i hi6
  generalize addC c (cAt stepsC i) = x at hx hes
  refine Ev.step (f := fun n => (impl_Cube_104.f n l x.f0 x.f1 x.f2).bind fun t => if t = true then (impl_Cube_104.f n (expI l o c i) x.f0 x.f1 x.f2).bind fun t2 => if t2 = true then impl_connectedCubes.l1 n l (expI l o c i) k nb (nb.length : Int) ((i + 1 : Nat) : Int) else impl_connectedCubes.l1 n l (expI l o c i ++ [x]) k nb (nb.length : Int) ((i + 1 : Nat) : Int) else impl_connectedCubes.l1 n l (expI l o c i) k nb (nb.length : Int) ((i + 1 : Nat) : Int)) (fun n => ?_) (Ev.bind (contains_ev l x h) ?_)
  ·simp only [impl_connectedCubes.l1, hx, hw, if_true, show (i : Int) < (nb.length : Int) from by omega, show (0 : Int) ≤ (i : Int) from by omega, show (expI l o c i).length < 5864062014805 from by omega]
  ·unfold addO at hes
   cases c1 : l.contains x with
   | false =>
    rw [c1, Bool.false_and, if_neg (by simp)] at hes
    rw [hes] at ih
    exact ih
   | true =>
    refine Ev.bind (contains_ev (expI l o c i) x (by omega)) ?_
    cases c2 : (expI l o c i).contains x with
    | true =>
     rw [c1, c2, Bool.not_true, Bool.and_false, if_neg (by simp)] at hes
     rw [hes] at ih
     exact ih
    | false =>
     rw [c1, c2, Bool.not_false, Bool.and_true, if_pos rfl] at hes
     rw [hes] at ih
     exact ih
theorem con_out (l : List Cb) (h : l.length ≤ 1048576) (hr : ∀ c ∈ l, inCb c (-100) 100 = true) : ∀ (f : Nat) (o : List Cb) (k : Nat), f + k = l.length + 1 → k ≤ o.length → FitO l o → (∀ c ∈ o, c ∈ l) → Ev (fun n => impl_connectedCubes.l0 n l o (k : Int)) (decide ((bfsO l f o k).length = l.length))
 | 0, o, k, hf, hk, hft, hs => by
  have := hft.len
  omega
 | f + 1, o, k, hf, hk, hft, hs => by
  have hol := hft.len
  unfold bfsO
  by_cases c : k < o.length
  ·rw [if_pos c]
   have hpr := expI_pre l o (cAt o k) k c 6 (Nat.le_refl _)
   have ih := con_out l h hr f (expI l o (cAt o k) 6) (k + 1) (by omega) (by omega) (FitO.exp hft _ 6 (Nat.le_refl _)) (expI_sub hs _ 6 (Nat.le_refl _))
   have hm : cAt o k ∈ o := by
    have : cAt o k = o[k] := by simp [cAt, List.getD_eq_getElem?_getD, c]
    rw [this]; exact List.getElem_mem _
   have hw := wrap_succ k (by omega)
   have ha := around_eq (cAt o k) (hr _ (hs _ hm))
   have hg : rd_T94 o (k : Int) = cAt o k := rfl
   have hin := con_in l h o (cAt o k) (stepsC.map (addC (cAt o k))) rfl hft (k : Int) _ (by rw [hw]; exact ih) 6 0 (by omega)
   refine Ev.step (f := fun n => impl_connectedCubes.l1 n l o (k : Int) (stepsC.map (addC (cAt o k))) ((stepsC.map (addC (cAt o k))).length : Int) 0) (fun n => ?_) hin
   simp only [impl_connectedCubes.l0, hg, ha, Option.bind_some, if_true, show (k : Int) < (o.length : Int) from by omega, show (0 : Int) ≤ (k : Int) from by omega]
  ·rw [if_neg c]
   refine Ev.step (f := fun n => some (decide (o.length = l.length))) (fun n => ?_) (Ev.now _)
   simp only [impl_connectedCubes.l0]
   rw [if_neg (by omega)]
   congr 1
   rw [Bool.eq_iff_iff, beq_iff_eq, decide_eq_true_eq]
   omega
theorem icon_ev (l : List Cb) (h1 : 1 ≤ l.length) (h : l.length ≤ 1048576) (hr : ∀ c ∈ l, inCb c (-100) 100 = true) : Ev (fun k => impl_connectedCubes.f k l) (conP l) := by
 have hm : cAt l 0 ∈ l := by
  have h0 : 0 < l.length := h1
  have : cAt l 0 = l[0] := by simp [cAt, List.getD_eq_getElem?_getD, h0]
  rw [this]; exact List.getElem_mem _
 refine Ev.congr (f := fun k => impl_connectedCubes.l0 k l [cAt l 0] ((0 : Nat) : Int)) (fun k => ?_) (con_out l h hr (l.length + 1) [cAt l 0] 0 (by omega) (by simp) (FitO.start h1) (fun c hc => by rw [List.mem_singleton.1 hc]; exact hm))
 unfold impl_connectedCubes.f
 rw [if_pos (by omega)]
 rfl
theorem sol_in (l : List Cb) (h : solP l = true) : 1 ≤ l.length ∧ l.length ≤ 24 ∧ ∀ c ∈ l, inCb c (-100) 100 = true := by
 unfold solP at h
 rw [Bool.and_eq_true, Bool.and_eq_true, decide_eq_true_eq, decide_eq_true_eq, List.all_eq_true] at h
 refine ⟨h.2.1, h.2.2, fun c hc => ?_⟩
 obtain ⟨i, hi, rfl⟩ := List.mem_iff_getElem.1 hc
 have := h.1 i (List.mem_range.2 hi)
 unfold solStep at this
 rw [Bool.and_eq_true] at this
 have e : oAt l i = l[i] := by simp [oAt, List.getD_eq_getElem?_getD, hi]
 rw [← e]
 exact this.1
section
attribute [local go_sem] max2_int min2_int max_two min_two max_three min_three max_four min_four
def spec_l09Steps.f  : Option ((List (S94))) := some (([(⟨0, 0, (-1)⟩ : S94), (⟨0, (-1), 0⟩ : S94), (⟨(-1), 0, 0⟩ : S94), (⟨1, 0, 0⟩ : S94), (⟨0, 1, 0⟩ : S94), (⟨0, 0, 1⟩ : S94)] : List (S94)))
set_option maxHeartbeats 8000000 in
set_option maxRecDepth 100000 in
theorem spec_l09Steps.calls  (r : List (S94)) (w : World) (h : spec_l09Steps.f  = some r) :
    Calls Try.prog 95 #[] w fun e w' => ∃ v0_ : Value, e = .returned (v0_) ∧ Kd.R k94 94 w' w.heap.size (fun _ => True) v0_ r ∧ Below w.heap.size w w' := by
 (have hu94 := Try.underlying94); (have HB := A0_ (Below.refl w.heap.size w)); (have H : (some (([(⟨0, 0, (-1)⟩ : S94), (⟨0, (-1), 0⟩ : S94), (⟨(-1), 0, 0⟩ : S94), (⟨1, 0, 0⟩ : S94), (⟨0, 1, 0⟩ : S94), (⟨0, 0, 1⟩ : S94)] : List (S94)))) = some r := h); clear h; (obtain ⟨y122, hy122⟩ : ∃ y_ : List (S94), y_ = (([(⟨0, 0, (-1)⟩ : S94), (⟨0, (-1), 0⟩ : S94), (⟨(-1), 0, 0⟩ : S94), (⟨1, 0, 0⟩ : S94), (⟨0, 1, 0⟩ : S94), (⟨0, 0, 1⟩ : S94)] : List (S94))) := ⟨_, rfl⟩); (replace H : (some y122) = some r := by first | (rw [hy122]; with_reducible exact H) | (have H2_ := (Option.bind_some _ _).symm.trans H; rw [hy122]; with_reducible exact H2_) | (have H2_ := (Option.bind_some _ _).symm.trans H; with_reducible exact H2_) | with_reducible exact H | (rw [hy122]; exact H) | exact H); (have Ny122 := A0_ hy122); clear hy122; (obtain rfl := Option.some.inj H); (go_enter Try.func95, Try.ntmps95)
 go_wp2_with (first | ((with_reducible refine gate_dst (N := 7) rfl ?_); refine Kd.R_lit k94 _ 94 ?hg (N := 7) ?hd (xs := ([(⟨0, 0, (-1)⟩ : S94), (⟨0, (-1), 0⟩ : S94), (⟨(-1), 0, 0⟩ : S94), (⟨1, 0, 0⟩ : S94), (⟨0, 1, 0⟩ : S94), (⟨0, 0, 1⟩ : S94)] : List (S94))) (inner := [.int .i64 0, .int .i64 0, .int .i64 (-1), .int .i64 0, .int .i64 (-1), .int .i64 0, .int .i64 (-1), .int .i64 0, .int .i64 0, .int .i64 1, .int .i64 0, .int .i64 0, .int .i64 0, .int .i64 1, .int .i64 0, .int .i64 0, .int .i64 0, .int .i64 1]) (ok := fun _ => True) (okp := fun _ => True) ?hr ?hp (fun _ hk => hk) trivial (Below.refl _ _) (Nat.le_refl _) (by simp) ?_; (case hd => rfl); (case hg => rfl); (case hr => first | (go_simp; done) | (go_simp; rfl)); (case hp => exact (Reps.c3 (show Kd.M k94 _ _ _ (⟨0, 0, (-1)⟩ : S94) [.int .i64 0, .int .i64 0, .int .i64 (-1)] from (k94_mkM _ _ _ (⟨0, 0, (-1)⟩ : S94) )) (Reps.c3 (show Kd.M k94 _ _ _ (⟨0, (-1), 0⟩ : S94) [.int .i64 0, .int .i64 (-1), .int .i64 0] from (k94_mkM _ _ _ (⟨0, (-1), 0⟩ : S94) )) (Reps.c3 (show Kd.M k94 _ _ _ (⟨(-1), 0, 0⟩ : S94) [.int .i64 (-1), .int .i64 0, .int .i64 0] from (k94_mkM _ _ _ (⟨(-1), 0, 0⟩ : S94) )) (Reps.c3 (show Kd.M k94 _ _ _ (⟨1, 0, 0⟩ : S94) [.int .i64 1, .int .i64 0, .int .i64 0] from (k94_mkM _ _ _ (⟨1, 0, 0⟩ : S94) )) (Reps.c3 (show Kd.M k94 _ _ _ (⟨0, 1, 0⟩ : S94) [.int .i64 0, .int .i64 1, .int .i64 0] from (k94_mkM _ _ _ (⟨0, 1, 0⟩ : S94) )) (Reps.c3 (show Kd.M k94 _ _ _ (⟨0, 0, 1⟩ : S94) [.int .i64 0, .int .i64 0, .int .i64 1] from (k94_mkM _ _ _ (⟨0, 0, 1⟩ : S94) )) (Reps.none _ _)))))))); intro v123 w1 ho2 hb hg_ hnew_; clear hg_ hnew_; (first | rw [← Ny122.out] at ho2 | (simp only [Int.reduceToNat] at ho2; rw [← Ny122.out] at ho2)); have n0_ := A0_ (Kd.R_lower ho2 (below_size bw_)); have n1_ := A0_ (below_step bw_ hb); clear HB; have HO124 := n0_; have HB := n1_; clear n0_ n1_; clear hb ho2))
 go_ret; (exact ⟨_, by first | rfl | (simp [errW_none, errW_some] <;> rfl) | (simp [*, errW_none, errW_some] <;> rfl), by (with_reducible repeat (first | apply Ra_ | apply Rn_ | apply Rd_)); exact HO124.out, bx_⟩)
end
theorem Sp.cbCells {w0 w : World} {rs : List Res} {i base n c : Nat} {ad : Addr} {xs : List Cb} (h : Sp w0 rs w) (hi : rs[i]? = some (Res.row kC 94 base (.slice (some ad) n c) xs)) (k : Nat) (hk : k < xs.length) :
    w.cell? (ad.add (k * 3)) = some (.int .i64 (cAt xs k).f0) ∧ w.cell? ⟨(ad.add (k * 3)).block, (ad.add (k * 3)).off + 1, none⟩ = some (.int .i64 (cAt xs k).f1) ∧ w.cell? ⟨(ad.add (k * 3)).block, (ad.add (k * 3)).off + 2, none⟩ = some (.int .i64 (cAt xs k).f2) := by
 (obtain ⟨ad2, e, h0, h1, h2⟩ := at_T94 (Sp.reads h hi).2.2 (k : Int) (by omega) (by omega)); (injection e with e); subst e; (exact ⟨h0, h1, h2⟩)
def spec_l09Connected.f (k : Nat) (l : List Cb) : Option Bool := if 1 ≤ l.length ∧ l.length ≤ 1048576 then some (conP l) else none
theorem sindex_at (l : List Cb) (x : Cb) (h : l.length ≤ 1048576) : ∃ (K : Nat) (r : Int), decide (r ≥ 0) = l.contains x ∧ spec_l09Index.f K l x.f0 x.f1 x.f2 = some r := by
 (obtain ⟨r, h1, h2⟩ := sindex_ev l x h); (obtain ⟨K, hK⟩ := h2.rounds); (exact ⟨K, r, h1, hK⟩)
def conF.T8 : Bool × List (List Nat × List Nat) := (true, [([], []), ([], []), ([0, 1], [0, 1]), ([2], [2]), ([], []), ([], []), ([4, 5], [4, 5]), ([6], [6]), ([3, 7, 4], [3, 7]), ([], []), ([9, 8, 8, 0, 1, 2, 3, 4, 5, 6, 7, 8, 9], [8, 9])])
def conF.B8 : List Nat := [0, 0, 3, 7, 0, 0, 48, 112, 255, 0, 1023]
theorem conF.tab8 : rtab .any (opsOf Try.f85 8) = conF.T8 := by kernel_rfl
theorem conF.bits8 : waitsOk conF.T8.2 conF.B8 = true := by kernel_rfl
set_option maxHeartbeats 4000000 in
set_option maxRecDepth 100000 in
theorem spec_l09Connected.calls (k : Nat) (A0 : Option Addr) (c0 : Nat) (l0 : List Cb) (r : Bool) (w : World) (hr0 : Kd.C k94 w A0 l0.length l0) (hc0 : l0.length ≤ c0) (h : spec_l09Connected.f k l0 = some r) :
    Calls Try.prog 85 #[.slice A0 l0.length c0] w fun e w' => e = .returned (.bool r) ∧ Below w.heap.size w w' := by
 (have hu69 := Try.underlying94); (unfold spec_l09Connected.f at h); (split at h)
 case isFalse => cases h
 (rename_i hz); (have HRR := A0_ (show conP l0 = r from Option.some.inj h)); (have HR0 := A0_ hr0); (have HC0 := A0_ hc0); (have HZ := A0_ hz)
 have HIX := A0_ (fun (l : List Cb) (x : Cb) (hl : l.length ≤ 1048576) => sindex_at l x hl)
 (have HS := A0_ (Sp.start w)); (have HST := A0_ (FitO.start hz.1)); clear hr0 hc0 hz h; (obtain ⟨ad0, e0, hx0, hx1, hx2⟩ := at_T94 HR0.out 0 (by omega) (by have := HZ.out.1; omega)); subst e0; (rw [show rd_T94 l0 0 = cAt l0 0 from rfl] at hx0 hx1 hx2); (rw [show (0 : Int).toNat * 3 = 0 from rfl, Addr.add_zero'] at hx0 hx1 hx2); (have q0 : (0 < l0.length) = True := eq_true (by have := HZ.out.1; omega)); (have q1 : ((0 : Int) < (l0.length : Int)) = True := eq_true (by have := HZ.out.1; omega)); (obtain ⟨cf, hcf⟩ : ∃ cf, cf = cAt l0 0 := ⟨_, rfl⟩); (rw [← hcf] at hx0 hx1 hx2 HST); (have HCF := A0_ hcf); clear hcf; (rw [← HRR.out]); clear HRR; (have HFIN := A0_ (show conP l0 = decide ((bfsO l0 (l0.length + 1 - 0) [cf] 0).length = l0.length) by rw [HCF.out]; rfl)); (go_enter Try.func85, Try.ntmps85)
 go_wp2_with (first
  | ((with_reducible refine gate_dst (N := 10) rfl ?_); refine Kd.R_lit kC _ 94 ?hg (N := 10) ?hd (xs := [cf]) (inner := [.int .i64 cf.f0, .int .i64 cf.f1, .int .i64 cf.f2]) (ok := fun _ => True) (okp := fun _ => True) ?hr ?hp (fun _ hk => hk) trivial (Below.refl _ _) (Nat.le_refl _) (by simp) ?_; (case hd => rfl); (case hg => rfl); (case hr => first | (go_simp; done) | (go_simp; rfl)); (case hp => exact (Reps.c3 (show Kd.M kC _ _ _ cf [.int .i64 cf.f0, .int .i64 cf.f1, .int .i64 cf.f2] from k94_mkM _ _ _ cf) (Reps.none _ _))); intro vl_ wl_ ho_ hb_ hg_ hn_; clear hg_ hn_; replace HS := A0_ (Sp.made' HS.out hb_ ho_); clear ho_ hb_; obtain ⟨Al, cl, ev_⟩ := Sp.slice HS.out (i := 0) rfl; subst ev_; clear hx0 hx1 hx2))
 go_loopg [3, 4] (l0.length + 2) (fun kq v3 v4 w' => ∃ (k : Nat) (o : List Cb) (A : Option Addr) (ca : Nat), v4 = .int .i64 (k : Int) ∧ v3 = .slice A o.length ca ∧ Aside0 (k ≤ o.length ∧ FitO l0 o ∧ kq + k = l0.length + 2) ∧ Aside0 (conP l0 = decide ((bfsO l0 (l0.length + 1 - k) o k).length = l0.length)) ∧ Aside0 (Sp w ([Res.row kC 94 w.heap.size (.slice A o.length ca) o]) w'))
 case atStart => exact ⟨0, [cf], Al, cl, rfl, rfl, ⟨by simp, HST.out, by omega⟩, HFIN, HS⟩
 case round =>
  clear HS HFIN HST; (obtain ⟨k, o, A, ca, rfl, rfl, HX, HFIN, HS⟩ := hrel); (obtain ⟨k1, rfl⟩ : ∃ k1, gk = k1 + 1 := ⟨gk - 1, by have := HX.out; have := HX.out.2.1.len; omega⟩); (by_cases ck : k < o.length)
  ·(have ck0 : decide (k < o.length) = true := decide_eq_true ck); (have HW := A0_ (wrap_succ k (by have := HX.out.2.1.len; have := HZ.out.2; omega))); (have HPR := A0_ (expI_pre l0 o (cAt o k) k ck))
   have HFT := A0_ (fun i hi => FitO.exp HX.out.2.1 (cAt o k) i hi)
   have HNX := A0_ (show bfsO l0 (l0.length + 1 - k) o k = bfsO l0 (l0.length + 1 - (k + 1)) (expI l0 o (cAt o k) 6) (k + 1) by
    (have h1 := HX.out.2.1.len); (rw [show l0.length + 1 - k = (l0.length + 1 - (k + 1)) + 1 from by omega]); (exact if_pos ck))
   (obtain ⟨c, hc⟩ : ∃ c, c = cAt o k := ⟨_, rfl⟩); (rw [← hc] at HPR HFT HNX); clear ck hc; go_wp2
   go_loopg [3, 5] 7 (fun kq v3 v5 w' => ∃ (i : Nat) (A : Option Addr) (ca : Nat), v5 = .int .i64 (i : Int) ∧ v3 = .slice A (expI l0 o c i).length ca ∧ Aside0 (i ≤ 6 ∧ kq + i = 7) ∧ Aside0 (Sp w ([Res.row kC 94 w.heap.size (.slice A (expI l0 o c i).length ca) (expI l0 o c i)]) w'))
   case atStart => exact ⟨0, A, ca, rfl, rfl, ⟨by omega, by omega⟩, HS⟩
   case round =>
    clear HS; (obtain ⟨i, A, ca, rfl, rfl, HY, HS⟩ := hrel); (obtain ⟨k2, rfl⟩ : ∃ k2, gk = k2 + 1 := ⟨gk - 1, by have := HY.out; omega⟩); (by_cases ci : i < 6)
    ·(have ci0 : decide (i < 6) = true := decide_eq_true ci); (have ci1 : (i < 6) = True := eq_true ci); (have ci2 : decide ((i : Int) < 6) = true := decide_eq_true (by omega)); (have ci3 : ((i : Int) < 6) = True := eq_true (by omega)); (have HI6 := A0_ ci); (have HWI := A0_ (wrap_succ i (by omega))); (have HPI := HPR.out i (by omega)); (have HKX := A0_ HPI.1); (have HOA := A0_ HPI.2); (have HFI := A0_ (HFT.out i (by omega))); (have HES := A0_ (expI_succ l0 o c i ci)); (obtain ⟨si, hsi⟩ : ∃ si, si = cAt stepsC i := ⟨_, rfl⟩); (have HSI0 := A0_ hsi.symm); (rw [← hsi] at HES); clear hsi HPI ci; (obtain ⟨x, hx⟩ : ∃ x, x = addC c si := ⟨_, rfl⟩); (have q0 : (0 ≤ (k : Int)) = True := eq_true (by omega)); (have q1 : ((k : Int) < ((expI l0 o c i).length : Int)) = True := eq_true (by have := HKX.out; omega)); (have q2 : (k < (expI l0 o c i).length) = True := eq_true HKX.out); (have q3 : (0 ≤ (i : Int)) = True := eq_true (by omega)); (have q4 : ((i : Int) < ((stepsC).length : Int)) = True := eq_true (by have := HI6.out; rw [show (stepsC).length = 6 from rfl]; omega)); (have q5 : (i < (stepsC).length) = True := eq_true HI6.out)
     obtain ⟨ado, hado⟩ : ∃ ado, A = some ado := by
      (obtain ⟨ad2, e, _⟩ := at_T94 (Sp.reads HS.out (i := 0) rfl).2.2 (k : Int) (by omega) (by have := HKX.out; omega)); (exact ⟨ad2, e⟩)
     subst hado
     (replace HS := A0_ (show Sp w ([Res.row kC 94 w.heap.size (.slice (some ado) (expI l0 o c i).length ca) (expI l0 o c i)] ++ ([] : List Res)) wr.drew from Sp.drew HS.out)); go_wp2
     refine start_ (n := 11) (S := fun w' => w'.cell? (ado.add (k * 3)) = some (.int .i64 c.f0) ∧ w'.cell? ⟨(ado.add (k * 3)).block, (ado.add (k * 3)).off + 1, none⟩ = some (.int .i64 c.f1) ∧ w'.cell? ⟨(ado.add (k * 3)).block, (ado.add (k * 3)).off + 2, none⟩ = some (.int .i64 c.f2)) (ds := []) #[ff,ff,ff,ff,ff,ff,ff,ff,ff,ff,ff] (by kernel_rfl) rfl rfl (⟨((HOA.out ▸ Sp.cbCells HS.out (i := 0) rfl k HKX.out).1), ((HOA.out ▸ Sp.cbCells HS.out (i := 0) rfl k HKX.out).2.1), ((HOA.out ▸ Sp.cbCells HS.out (i := 0) rfl k HKX.out).2.2)⟩) (fun hHeld => ?_)
     refine with_tabW conF.tab8 conF.bits8 (fun HT_ HW_ => ?_)
     (generalize wr.drew = wD at HS hHeld ⊢); (refine on_ 0 (some 21) ?_); (refine on_ 1 (some 22) ?_); (refine on_ 2 (some 23) ?_); (refine tk_ 3 (some 24) ?_); (refine on_ 5 (some 26) ?_)
     refine o2_ 4 9 (some 25) (some 6) (fun K hK => ?_) (fun K hK => ?_)
     ·(refine gs_ Try.func95 #[] ?_); (refine (spec_l09Steps.calls stepsC _ rfl).mono ?_); (rintro e wA11 ⟨vA11, rfl, ho, hb⟩); (refine ⟨_, rfl, ?_⟩); (replace HS := A0_ (Sp.made' HS.out hb ho)); clear hb ho; (obtain ⟨AA11, cA11, rfl⟩ := Sp.slice HS.out (i := 0) rfl); (obtain ⟨ads, es_, _⟩ := at_T94 (Sp.reads HS.out (i := 0) rfl).2.2 (0 : Int) (by omega) (by decide)); subst es_
      refine hK.out _ _ (⟨((HOA.out ▸ Sp.cbCells HS.out (i := 1) rfl k HKX.out).1), ((HOA.out ▸ Sp.cbCells HS.out (i := 1) rfl k HKX.out).2.1), ((HOA.out ▸ Sp.cbCells HS.out (i := 1) rfl k HKX.out).2.2)⟩) (fun hHeld => ?_)
      clear hK K; (refine nm_ (some 25) ?_); (refine on_ 6 (some 27) ?_)
      refine o2_ 7 9 (some 28) (some 6) (fun K hK => ?_) (fun K hK => ?_)
      ·(obtain ⟨hs0, hs1, hs2⟩ := Sp.cbCells HS.out (i := 0) rfl i HI6.out); (rw [HSI0.out] at hs0 hs1 hs2); (refine event_step (v := .agg #[.int .i64 si.f0, .int .i64 si.f1, .int .i64 si.f2]) (w1 := wA11) (by rfl) (by first | (go_simp; done) | (go_simp; rfl)) ?_); clear hs0 hs1 hs2
       refine hK.out _ _ (⟨((HOA.out ▸ Sp.cbCells HS.out (i := 1) rfl k HKX.out).1), ((HOA.out ▸ Sp.cbCells HS.out (i := 1) rfl k HKX.out).2.1), ((HOA.out ▸ Sp.cbCells HS.out (i := 1) rfl k HKX.out).2.2)⟩) (fun hHeld => ?_)
       clear hK K; (refine nm_ (some 28) ?_)
       refine o2_ 8 9 (some 29) (some 6) (fun K hK => ?_) (fun K hK => ?_)
       ·(refine gs_ Try.func89 #[.agg #[.int .i64 c.f0, .int .i64 c.f1, .int .i64 c.f2], .agg #[.int .i64 si.f0, .int .i64 si.f1, .int .i64 si.f2]] ?_); (refine (spec_l09Add.calls c.f0 c.f1 c.f2 si.f0 si.f1 si.f2 (addC c si).f0 (addC c si).f1 (addC c si).f2 _ rfl).mono ?_); (rintro e wA12 ⟨rfl, hb⟩); (refine ⟨_, rfl, ?_⟩); (replace HS := A0_ (Sp.far HS.out hb)); clear hb
        refine hK.out _ _ (⟨((HOA.out ▸ Sp.cbCells HS.out (i := 1) rfl k HKX.out).1), ((HOA.out ▸ Sp.cbCells HS.out (i := 1) rfl k HKX.out).2.1), ((HOA.out ▸ Sp.cbCells HS.out (i := 1) rfl k HKX.out).2.2)⟩) (fun hHeld => ?_)
        clear hK K; (refine nm_ (some 29) ?_)
        refine o1_ 9 (some 6) (fun K hK => ?_)
        (refine event_step (v := .pointer (some ⟨wA12.heap.size, 0, none⟩)) (w1 := wA12.alloc (.cells #[.int .i64 0, .int .i64 0, .int .i64 0] 94)) (by rfl) (by first | (go_simp; done) | (go_simp; rfl)) ?_); (obtain ⟨gx, hg_⟩ : ∃ g_, g_ = (wA12).heap.size := ⟨_, rfl⟩); (obtain ⟨wB13, hw_⟩ : ∃ w_, w_ = World.alloc wA12 (.cells #[.int .i64 0, .int .i64 0, .int .i64 0] 94) := ⟨_, rfl⟩); (rw [← hw_, ← hg_]); (have HS_ := A0_ (Sp.box HS.out #[.int .i64 0, .int .i64 0, .int .i64 0] 94)); (rw [← hw_, ← hg_] at HS_); clear HS; (have HS := HS_); clear HS_ hw_ hg_
        refine hK.out _ _ (⟨((HOA.out ▸ Sp.cbCells HS.out (i := 2) rfl k HKX.out).1), ((HOA.out ▸ Sp.cbCells HS.out (i := 2) rfl k HKX.out).2.1), ((HOA.out ▸ Sp.cbCells HS.out (i := 2) rfl k HKX.out).2.2)⟩) (fun hHeld => ?_)
        clear hK K; (refine nm_ (some 6) ?_)
        refine o1_ 10 none (fun K hK => ?_)
        (refine skip_ (w1 := wB13.setCells gx 0 (#[.int .i64 (addC c si).f0, .int .i64 (addC c si).f1, .int .i64 (addC c si).f2] : Array Value).toList) (by rfl) rfl (exec_store (v := .pointer (some ⟨gx, 0, none⟩)) (u := .agg #[.int .i64 (addC c si).f0, .int .i64 (addC c si).f1, .int .i64 (addC c si).f2]) rfl (by first | rfl | (go_simp; done) | (go_simp; rfl)) (by first | rfl | (go_simp; done) | (go_simp; rfl)) (Sp.blkStore HS.out (i := 0) rfl (.agg #[.int .i64 (addC c si).f0, .int .i64 (addC c si).f1, .int .i64 (addC c si).f2]) (#[.int .i64 (addC c si).f0, .int .i64 (addC c si).f1, .int .i64 (addC c si).f2]) rfl rfl (by kernel_rfl) (by first | (simp; done) | (simp [Value.oneCell']; done) | (simp; exact ⟨rfl, rfl, rfl⟩)))) ?_); (obtain ⟨wS14, hw_⟩ : ∃ w_, w_ = wB13.setCells gx 0 (#[.int .i64 (addC c si).f0, .int .i64 (addC c si).f1, .int .i64 (addC c si).f2] : Array Value).toList := ⟨_, rfl⟩); (rw [← hw_]); (have HS_ := A0_ (Sp.blkAll HS.out (i := 0) rfl (#[.int .i64 (addC c si).f0, .int .i64 (addC c si).f1, .int .i64 (addC c si).f2]) rfl)); (rw [← hw_] at HS_); clear HS; (have HS := HS_); clear HS_ hw_
        refine hK.out _ _ (⟨((HOA.out ▸ Sp.cbCells HS.out (i := 2) rfl k HKX.out).1), ((HOA.out ▸ Sp.cbCells HS.out (i := 2) rfl k HKX.out).2.1), ((HOA.out ▸ Sp.cbCells HS.out (i := 2) rfl k HKX.out).2.2)⟩) (fun hHeld => ?_)
        clear hK K; (refine dn_ ?_); (replace HS := A0_ (Sp.arr (pre := [Res.blk gx #[.int .i64 (addC c si).f0, .int .i64 (addC c si).f1, .int .i64 (addC c si).f2] 94, Res.row kC 94 w.heap.size (.slice (some ads) (stepsC).length cA11) (stepsC), Res.row kC 94 w.heap.size (.slice (some ado) (expI l0 o c i).length ca) (expI l0 o c i)]) (pre' := [Res.blk gx #[.int .i64 (addC c si).f0, .int .i64 (addC c si).f1, .int .i64 (addC c si).f2] 94, Res.row kC 94 w.heap.size (.slice (some ado) (expI l0 o c i).length ca) (expI l0 o c i), Res.row kC 94 w.heap.size (.slice (some ads) (stepsC).length cA11) (stepsC)]) (rest := ([] : List Res)) [0, 2, 1] HS.out rfl rfl)); (rw [show addC c si = x from hx.symm] at HS); (have HX6 := A0_ hx); clear hx; (have hx0 := (cl_ HS 0 0 rfl).trans rfl); (have hx1 := (cl_ HS 0 1 rfl).trans rfl); (have hx2 := (cl_ HS 0 2 rfl).trans rfl); (obtain ⟨Ka, ra, ha, hKa⟩ := HIX.out l0 x HZ.out.2); (have HKA := A0_ hKa)
        cases c1 : l0.contains x with
        | false =>
         (rw [c1] at ha); (have n0_ : decide (0 ≤ ra) = false := ha); (have n1_ : (0 ≤ ra) = False := eq_false (of_decide_eq_false ha)); (have HN := A0_ (show expI l0 o c (i + 1) = expI l0 o c i by rw [HES.out, ← HX6.out]; unfold addO; rw [c1, Bool.false_and, if_neg (by simp)])); clear c1 ha
         go_wp2_with (first
          | (go_at_call 110; refine (spec_l09Index.calls Ka (some ad0) c0 l0 x.f0 x.f1 x.f2 ra _ (Kd.C_below HR0.out HS.out.below) HC0.out HKA.out).mono ?_; rintro e wc_ ⟨rfl, hd_⟩; replace HS := A0_ (Sp.far HS.out hd_); clear hd_ hx0 hx1 hx2 HKA; have hx0 := (cl_ HS 0 0 rfl).trans rfl; have hx1 := (cl_ HS 0 1 rfl).trans rfl; have hx2 := (cl_ HS 0 2 rfl).trans rfl))
         (replace HS := A0_ (show Sp w [Res.row kC 94 w.heap.size (.slice (some ado) (expI l0 o c i).length ca) (expI l0 o c i)] _ from Sp.tail (Sp.out HS.out 2))); (go_roundg k2)
         case measure => omega
         case rel =>
          (rw [HWI.out]); (exact ⟨i + 1, some ado, ca, rfl, by rw [HN.out], ⟨by have := HI6.out; omega, by have := HY.out; omega⟩, ⟨by rw [HN.out]; exact HS.out⟩⟩)
        | true =>
         (rw [c1] at ha); (have n0_ : decide (0 ≤ ra) = true := ha); (have n1_ : (0 ≤ ra) = True := eq_true (of_decide_eq_true ha)); (obtain ⟨Kb, rb, hb, hKb⟩ := HIX.out (expI l0 o c i) x (by have := HFI.out.len; have := HZ.out.2; omega)); (have HKB := A0_ hKb); clear ha hKb
         cases c2 : (expI l0 o c i).contains x with
         | true =>
          (rw [c2] at hb); (have m0_ : decide (rb < 0) = false := decide_eq_false (by have := of_decide_eq_true hb; omega)); (have m1_ : (rb < 0) = False := eq_false (by have := of_decide_eq_true hb; omega)); (have HN := A0_ (show expI l0 o c (i + 1) = expI l0 o c i by rw [HES.out, ← HX6.out]; unfold addO; rw [c1, c2, Bool.not_true, Bool.and_false, if_neg (by simp)])); clear c1 c2 hb
          go_wp2_with (first
           | (go_at_call 110; refine (spec_l09Index.calls Ka (some ad0) c0 l0 x.f0 x.f1 x.f2 ra _ (Kd.C_below HR0.out HS.out.below) HC0.out HKA.out).mono ?_; rintro e wc_ ⟨rfl, hd_⟩; replace HS := A0_ (Sp.far HS.out hd_); clear hd_ hx0 hx1 hx2 HKA; have hx0 := (cl_ HS 0 0 rfl).trans rfl; have hx1 := (cl_ HS 0 1 rfl).trans rfl; have hx2 := (cl_ HS 0 2 rfl).trans rfl)
           | (go_at_call 110; refine (spec_l09Index.calls Kb (some ado) ca (expI l0 o c i) x.f0 x.f1 x.f2 rb _ (Sp.reads HS.out (i := 1) rfl).2.2 (Sp.reads HS.out (i := 1) rfl).2.1 HKB.out).mono ?_; rintro e wc_ ⟨rfl, hd_⟩; replace HS := A0_ (Sp.far HS.out hd_); clear hd_ hx0 hx1 hx2 HKB; have hx0 := (cl_ HS 0 0 rfl).trans rfl; have hx1 := (cl_ HS 0 1 rfl).trans rfl; have hx2 := (cl_ HS 0 2 rfl).trans rfl))
          (replace HS := A0_ (show Sp w [Res.row kC 94 w.heap.size (.slice (some ado) (expI l0 o c i).length ca) (expI l0 o c i)] _ from Sp.tail (Sp.out HS.out 2))); (go_roundg k2)
          case measure => omega
          case rel =>
           (rw [HWI.out]); (exact ⟨i + 1, some ado, ca, rfl, by rw [HN.out], ⟨by have := HI6.out; omega, by have := HY.out; omega⟩, ⟨by rw [HN.out]; exact HS.out⟩⟩)
         | false =>
          (rw [c2] at hb); (have m0_ : decide (rb < 0) = true := decide_eq_true (by have := of_decide_eq_false hb; omega)); (have m1_ : (rb < 0) = True := eq_true (by have := of_decide_eq_false hb; omega)); (have HN := A0_ (show expI l0 o c (i + 1) = expI l0 o c i ++ [x] by rw [HES.out, ← HX6.out]; unfold addO; rw [c1, c2, Bool.not_false, Bool.and_true, if_pos rfl])); clear c1 c2 hb; (replace HS := A0_ (show Sp w [Res.blk gx #[.int .i64 x.f0, .int .i64 x.f1, .int .i64 x.f2] 94, Res.row kC 94 w.heap.size (.slice (some ado) (expI l0 o c i).length ca) (expI l0 o c i)] _ from Sp.out HS.out 2))
          go_wp2_with (first
           | (go_at_call 110; refine (spec_l09Index.calls Ka (some ad0) c0 l0 x.f0 x.f1 x.f2 ra _ (Kd.C_below HR0.out HS.out.below) HC0.out HKA.out).mono ?_; rintro e wc_ ⟨rfl, hd_⟩; replace HS := A0_ (Sp.far HS.out hd_); clear hd_ hx0 hx1 hx2 HKA; have hx0 := (cl_ HS 0 0 rfl).trans rfl; have hx1 := (cl_ HS 0 1 rfl).trans rfl; have hx2 := (cl_ HS 0 2 rfl).trans rfl)
           | (go_at_call 110; refine (spec_l09Index.calls Kb (some ado) ca (expI l0 o c i) x.f0 x.f1 x.f2 rb _ (Sp.reads HS.out (i := 1) rfl).2.2 (Sp.reads HS.out (i := 1) rfl).2.1 HKB.out).mono ?_; rintro e wc_ ⟨rfl, hd_⟩; replace HS := A0_ (Sp.far HS.out hd_); clear hd_ hx0 hx1 hx2 HKB; have hx0 := (cl_ HS 0 0 rfl).trans rfl; have hx1 := (cl_ HS 0 1 rfl).trans rfl; have hx2 := (cl_ HS 0 2 rfl).trans rfl)
           | ((with_reducible refine gate_dst (N := 42) rfl ?_); refine Kd.R_lit kC _ 94 ?hg (N := 42) ?hd (xs := [x]) (inner := [.int .i64 x.f0, .int .i64 x.f1, .int .i64 x.f2]) (ok := fun _ => True) (okp := fun _ => True) ?hr ?hp (fun _ hk => hk) trivial (Below.refl _ _) (Nat.le_refl _) (by simp) ?_; (case hd => rfl); (case hg => rfl); (case hr => first | (go_simp; done) | (go_simp; rfl)); (case hp => exact (Reps.c3 (show Kd.M kC _ _ _ x [.int .i64 x.f0, .int .i64 x.f1, .int .i64 x.f2] from k94_mkM _ _ _ x) (Reps.none _ _))); intro vl_ wl_ ho_ hb_ hg_ hn_; clear hg_ hn_; replace HS := A0_ (Sp.made' HS.out hb_ ho_); clear ho_ hb_; obtain ⟨Ax, cx, ev_⟩ := Sp.slice HS.out (i := 0) rfl; subst ev_; clear hx0 hx1 hx2)
           | ((with_reducible refine gate_builtin (b := .append) (xs := #[.tmp 40, .tmp 42]) rfl ?_); at_builtin; obtain ⟨fp_, ho_, hf_, hc_⟩ := Sp.row HS.out (i := 2) rfl; refine Kd.R_append_rows kC (w0 := w) w.heap.size rfl (.tmp 40) (.tmp 42) 35 94 ((.agg #[(.int .i64 0), (.int .i64 0), (.int .i64 0)])) 24 rfl Try.underlying35 info94 rfl (by decide) (by omega) (.slice (some ado) (expI l0 o c i).length ca) (expI l0 o c i) ([x]) _ _ _ _ (fun _ => False) rfl rfl ho_ ((Sp.reads HS.out (i := 0) rfl).2.2) (fun _ _ h => h) (fun _ h => h.elim) (fun _ h => Or.inr h) HS.out.below HS.out.below.size ?aL ?_; (case aL => have := HFI.out.len; have := HZ.out.2; simp only [List.length_cons, List.length_nil]; omega); intro va_ wa_ ho hb hg hat; replace HS := A0_ (hc_ _ _ _ ho hg); clear ho hb hg hat hc_ hf_ ho_ fp_; obtain ⟨A2, c2_, ev_⟩ := Sp.slice HS.out (i := 2) rfl; subst ev_; rw [← HN.out] at HS))
          (replace HS := A0_ (show Sp w [Res.row kC 94 w.heap.size (.slice A2 (expI l0 o c (i + 1)).length c2_) (expI l0 o c (i + 1))] _ from Sp.tail (Sp.tail HS.out))); (go_roundg k2)
          case measure => omega
          case rel =>
           (rw [HWI.out]); (exact ⟨i + 1, A2, c2_, rfl, by rw [HN.out, List.length_append]; rfl, ⟨by have := HI6.out; omega, by have := HY.out; omega⟩, HS⟩)
       ·(refine event_step (v := .pointer (some ⟨wA11.heap.size, 0, none⟩)) (w1 := wA11.alloc (.cells #[.int .i64 0, .int .i64 0, .int .i64 0] 94)) (by rfl) (by first | (go_simp; done) | (go_simp; rfl)) ?_); (obtain ⟨gx, hg_⟩ : ∃ g_, g_ = (wA11).heap.size := ⟨_, rfl⟩); (obtain ⟨wB12, hw_⟩ : ∃ w_, w_ = World.alloc wA11 (.cells #[.int .i64 0, .int .i64 0, .int .i64 0] 94) := ⟨_, rfl⟩); (rw [← hw_, ← hg_]); (have HS_ := A0_ (Sp.box HS.out #[.int .i64 0, .int .i64 0, .int .i64 0] 94)); (rw [← hw_, ← hg_] at HS_); clear HS; (have HS := HS_); clear HS_ hw_ hg_
        refine hK.out _ _ (⟨((HOA.out ▸ Sp.cbCells HS.out (i := 2) rfl k HKX.out).1), ((HOA.out ▸ Sp.cbCells HS.out (i := 2) rfl k HKX.out).2.1), ((HOA.out ▸ Sp.cbCells HS.out (i := 2) rfl k HKX.out).2.2)⟩) (fun hHeld => ?_)
        clear hK K; (refine nm_ (some 6) ?_)
        refine o1_ 8 (some 29) (fun K hK => ?_)
        (refine gs_ Try.func89 #[.agg #[.int .i64 c.f0, .int .i64 c.f1, .int .i64 c.f2], .agg #[.int .i64 si.f0, .int .i64 si.f1, .int .i64 si.f2]] ?_); (refine (spec_l09Add.calls c.f0 c.f1 c.f2 si.f0 si.f1 si.f2 (addC c si).f0 (addC c si).f1 (addC c si).f2 _ rfl).mono ?_); (rintro e wA13 ⟨rfl, hb⟩); (refine ⟨_, rfl, ?_⟩); (replace HS := A0_ (Sp.far HS.out hb)); clear hb
        refine hK.out _ _ (⟨((HOA.out ▸ Sp.cbCells HS.out (i := 2) rfl k HKX.out).1), ((HOA.out ▸ Sp.cbCells HS.out (i := 2) rfl k HKX.out).2.1), ((HOA.out ▸ Sp.cbCells HS.out (i := 2) rfl k HKX.out).2.2)⟩) (fun hHeld => ?_)
        clear hK K; (refine nm_ (some 29) ?_)
        refine o1_ 10 none (fun K hK => ?_)
        (refine skip_ (w1 := wA13.setCells gx 0 (#[.int .i64 (addC c si).f0, .int .i64 (addC c si).f1, .int .i64 (addC c si).f2] : Array Value).toList) (by rfl) rfl (exec_store (v := .pointer (some ⟨gx, 0, none⟩)) (u := .agg #[.int .i64 (addC c si).f0, .int .i64 (addC c si).f1, .int .i64 (addC c si).f2]) rfl (by first | rfl | (go_simp; done) | (go_simp; rfl)) (by first | rfl | (go_simp; done) | (go_simp; rfl)) (Sp.blkStore HS.out (i := 0) rfl (.agg #[.int .i64 (addC c si).f0, .int .i64 (addC c si).f1, .int .i64 (addC c si).f2]) (#[.int .i64 (addC c si).f0, .int .i64 (addC c si).f1, .int .i64 (addC c si).f2]) rfl rfl (by kernel_rfl) (by first | (simp; done) | (simp [Value.oneCell']; done) | (simp; exact ⟨rfl, rfl, rfl⟩)))) ?_); (obtain ⟨wS14, hw_⟩ : ∃ w_, w_ = wA13.setCells gx 0 (#[.int .i64 (addC c si).f0, .int .i64 (addC c si).f1, .int .i64 (addC c si).f2] : Array Value).toList := ⟨_, rfl⟩); (rw [← hw_]); (have HS_ := A0_ (Sp.blkAll HS.out (i := 0) rfl (#[.int .i64 (addC c si).f0, .int .i64 (addC c si).f1, .int .i64 (addC c si).f2]) rfl)); (rw [← hw_] at HS_); clear HS; (have HS := HS_); clear HS_ hw_
        refine hK.out _ _ (⟨((HOA.out ▸ Sp.cbCells HS.out (i := 2) rfl k HKX.out).1), ((HOA.out ▸ Sp.cbCells HS.out (i := 2) rfl k HKX.out).2.1), ((HOA.out ▸ Sp.cbCells HS.out (i := 2) rfl k HKX.out).2.2)⟩) (fun hHeld => ?_)
        clear hK K; (refine dn_ ?_); (replace HS := A0_ (Sp.arr (pre := [Res.blk gx #[.int .i64 (addC c si).f0, .int .i64 (addC c si).f1, .int .i64 (addC c si).f2] 94, Res.row kC 94 w.heap.size (.slice (some ads) (stepsC).length cA11) (stepsC), Res.row kC 94 w.heap.size (.slice (some ado) (expI l0 o c i).length ca) (expI l0 o c i)]) (pre' := [Res.blk gx #[.int .i64 (addC c si).f0, .int .i64 (addC c si).f1, .int .i64 (addC c si).f2] 94, Res.row kC 94 w.heap.size (.slice (some ado) (expI l0 o c i).length ca) (expI l0 o c i), Res.row kC 94 w.heap.size (.slice (some ads) (stepsC).length cA11) (stepsC)]) (rest := ([] : List Res)) [0, 2, 1] HS.out rfl rfl)); (rw [show addC c si = x from hx.symm] at HS); (have HX6 := A0_ hx); clear hx; (have hx0 := (cl_ HS 0 0 rfl).trans rfl); (have hx1 := (cl_ HS 0 1 rfl).trans rfl); (have hx2 := (cl_ HS 0 2 rfl).trans rfl); (obtain ⟨Ka, ra, ha, hKa⟩ := HIX.out l0 x HZ.out.2); (have HKA := A0_ hKa)
        cases c1 : l0.contains x with
        | false =>
         (rw [c1] at ha); (have n0_ : decide (0 ≤ ra) = false := ha); (have n1_ : (0 ≤ ra) = False := eq_false (of_decide_eq_false ha)); (have HN := A0_ (show expI l0 o c (i + 1) = expI l0 o c i by rw [HES.out, ← HX6.out]; unfold addO; rw [c1, Bool.false_and, if_neg (by simp)])); clear c1 ha
         go_wp2_with (first
          | (go_at_call 110; refine (spec_l09Index.calls Ka (some ad0) c0 l0 x.f0 x.f1 x.f2 ra _ (Kd.C_below HR0.out HS.out.below) HC0.out HKA.out).mono ?_; rintro e wc_ ⟨rfl, hd_⟩; replace HS := A0_ (Sp.far HS.out hd_); clear hd_ hx0 hx1 hx2 HKA; have hx0 := (cl_ HS 0 0 rfl).trans rfl; have hx1 := (cl_ HS 0 1 rfl).trans rfl; have hx2 := (cl_ HS 0 2 rfl).trans rfl))
         (replace HS := A0_ (show Sp w [Res.row kC 94 w.heap.size (.slice (some ado) (expI l0 o c i).length ca) (expI l0 o c i)] _ from Sp.tail (Sp.out HS.out 2))); (go_roundg k2)
         case measure => omega
         case rel =>
          (rw [HWI.out]); (exact ⟨i + 1, some ado, ca, rfl, by rw [HN.out], ⟨by have := HI6.out; omega, by have := HY.out; omega⟩, ⟨by rw [HN.out]; exact HS.out⟩⟩)
        | true =>
         (rw [c1] at ha); (have n0_ : decide (0 ≤ ra) = true := ha); (have n1_ : (0 ≤ ra) = True := eq_true (of_decide_eq_true ha)); (obtain ⟨Kb, rb, hb, hKb⟩ := HIX.out (expI l0 o c i) x (by have := HFI.out.len; have := HZ.out.2; omega)); (have HKB := A0_ hKb); clear ha hKb
         cases c2 : (expI l0 o c i).contains x with
         | true =>
          (rw [c2] at hb); (have m0_ : decide (rb < 0) = false := decide_eq_false (by have := of_decide_eq_true hb; omega)); (have m1_ : (rb < 0) = False := eq_false (by have := of_decide_eq_true hb; omega)); (have HN := A0_ (show expI l0 o c (i + 1) = expI l0 o c i by rw [HES.out, ← HX6.out]; unfold addO; rw [c1, c2, Bool.not_true, Bool.and_false, if_neg (by simp)])); clear c1 c2 hb
          go_wp2_with (first
           | (go_at_call 110; refine (spec_l09Index.calls Ka (some ad0) c0 l0 x.f0 x.f1 x.f2 ra _ (Kd.C_below HR0.out HS.out.below) HC0.out HKA.out).mono ?_; rintro e wc_ ⟨rfl, hd_⟩; replace HS := A0_ (Sp.far HS.out hd_); clear hd_ hx0 hx1 hx2 HKA; have hx0 := (cl_ HS 0 0 rfl).trans rfl; have hx1 := (cl_ HS 0 1 rfl).trans rfl; have hx2 := (cl_ HS 0 2 rfl).trans rfl)
           | (go_at_call 110; refine (spec_l09Index.calls Kb (some ado) ca (expI l0 o c i) x.f0 x.f1 x.f2 rb _ (Sp.reads HS.out (i := 1) rfl).2.2 (Sp.reads HS.out (i := 1) rfl).2.1 HKB.out).mono ?_; rintro e wc_ ⟨rfl, hd_⟩; replace HS := A0_ (Sp.far HS.out hd_); clear hd_ hx0 hx1 hx2 HKB; have hx0 := (cl_ HS 0 0 rfl).trans rfl; have hx1 := (cl_ HS 0 1 rfl).trans rfl; have hx2 := (cl_ HS 0 2 rfl).trans rfl))
          (replace HS := A0_ (show Sp w [Res.row kC 94 w.heap.size (.slice (some ado) (expI l0 o c i).length ca) (expI l0 o c i)] _ from Sp.tail (Sp.out HS.out 2))); (go_roundg k2)
          case measure => omega
          case rel =>
           (rw [HWI.out]); (exact ⟨i + 1, some ado, ca, rfl, by rw [HN.out], ⟨by have := HI6.out; omega, by have := HY.out; omega⟩, ⟨by rw [HN.out]; exact HS.out⟩⟩)
         | false =>
          (rw [c2] at hb); (have m0_ : decide (rb < 0) = true := decide_eq_true (by have := of_decide_eq_false hb; omega)); (have m1_ : (rb < 0) = True := eq_true (by have := of_decide_eq_false hb; omega)); (have HN := A0_ (show expI l0 o c (i + 1) = expI l0 o c i ++ [x] by rw [HES.out, ← HX6.out]; unfold addO; rw [c1, c2, Bool.not_false, Bool.and_true, if_pos rfl])); clear c1 c2 hb; (replace HS := A0_ (show Sp w [Res.blk gx #[.int .i64 x.f0, .int .i64 x.f1, .int .i64 x.f2] 94, Res.row kC 94 w.heap.size (.slice (some ado) (expI l0 o c i).length ca) (expI l0 o c i)] _ from Sp.out HS.out 2))
          go_wp2_with (first
           | (go_at_call 110; refine (spec_l09Index.calls Ka (some ad0) c0 l0 x.f0 x.f1 x.f2 ra _ (Kd.C_below HR0.out HS.out.below) HC0.out HKA.out).mono ?_; rintro e wc_ ⟨rfl, hd_⟩; replace HS := A0_ (Sp.far HS.out hd_); clear hd_ hx0 hx1 hx2 HKA; have hx0 := (cl_ HS 0 0 rfl).trans rfl; have hx1 := (cl_ HS 0 1 rfl).trans rfl; have hx2 := (cl_ HS 0 2 rfl).trans rfl)
           | (go_at_call 110; refine (spec_l09Index.calls Kb (some ado) ca (expI l0 o c i) x.f0 x.f1 x.f2 rb _ (Sp.reads HS.out (i := 1) rfl).2.2 (Sp.reads HS.out (i := 1) rfl).2.1 HKB.out).mono ?_; rintro e wc_ ⟨rfl, hd_⟩; replace HS := A0_ (Sp.far HS.out hd_); clear hd_ hx0 hx1 hx2 HKB; have hx0 := (cl_ HS 0 0 rfl).trans rfl; have hx1 := (cl_ HS 0 1 rfl).trans rfl; have hx2 := (cl_ HS 0 2 rfl).trans rfl)
           | ((with_reducible refine gate_dst (N := 42) rfl ?_); refine Kd.R_lit kC _ 94 ?hg (N := 42) ?hd (xs := [x]) (inner := [.int .i64 x.f0, .int .i64 x.f1, .int .i64 x.f2]) (ok := fun _ => True) (okp := fun _ => True) ?hr ?hp (fun _ hk => hk) trivial (Below.refl _ _) (Nat.le_refl _) (by simp) ?_; (case hd => rfl); (case hg => rfl); (case hr => first | (go_simp; done) | (go_simp; rfl)); (case hp => exact (Reps.c3 (show Kd.M kC _ _ _ x [.int .i64 x.f0, .int .i64 x.f1, .int .i64 x.f2] from k94_mkM _ _ _ x) (Reps.none _ _))); intro vl_ wl_ ho_ hb_ hg_ hn_; clear hg_ hn_; replace HS := A0_ (Sp.made' HS.out hb_ ho_); clear ho_ hb_; obtain ⟨Ax, cx, ev_⟩ := Sp.slice HS.out (i := 0) rfl; subst ev_; clear hx0 hx1 hx2)
           | ((with_reducible refine gate_builtin (b := .append) (xs := #[.tmp 40, .tmp 42]) rfl ?_); at_builtin; obtain ⟨fp_, ho_, hf_, hc_⟩ := Sp.row HS.out (i := 2) rfl; refine Kd.R_append_rows kC (w0 := w) w.heap.size rfl (.tmp 40) (.tmp 42) 35 94 ((.agg #[(.int .i64 0), (.int .i64 0), (.int .i64 0)])) 24 rfl Try.underlying35 info94 rfl (by decide) (by omega) (.slice (some ado) (expI l0 o c i).length ca) (expI l0 o c i) ([x]) _ _ _ _ (fun _ => False) rfl rfl ho_ ((Sp.reads HS.out (i := 0) rfl).2.2) (fun _ _ h => h) (fun _ h => h.elim) (fun _ h => Or.inr h) HS.out.below HS.out.below.size ?aL ?_; (case aL => have := HFI.out.len; have := HZ.out.2; simp only [List.length_cons, List.length_nil]; omega); intro va_ wa_ ho hb hg hat; replace HS := A0_ (hc_ _ _ _ ho hg); clear ho hb hg hat hc_ hf_ ho_ fp_; obtain ⟨A2, c2_, ev_⟩ := Sp.slice HS.out (i := 2) rfl; subst ev_; rw [← HN.out] at HS))
          (replace HS := A0_ (show Sp w [Res.row kC 94 w.heap.size (.slice A2 (expI l0 o c (i + 1)).length c2_) (expI l0 o c (i + 1))] _ from Sp.tail (Sp.tail HS.out))); (go_roundg k2)
          case measure => omega
          case rel =>
           (rw [HWI.out]); (exact ⟨i + 1, A2, c2_, rfl, by rw [HN.out, List.length_append]; rfl, ⟨by have := HI6.out; omega, by have := HY.out; omega⟩, HS⟩)
      ·(refine event_step (v := .pointer (some ⟨wA11.heap.size, 0, none⟩)) (w1 := wA11.alloc (.cells #[.int .i64 0, .int .i64 0, .int .i64 0] 94)) (by rfl) (by first | (go_simp; done) | (go_simp; rfl)) ?_); (obtain ⟨gx, hg_⟩ : ∃ g_, g_ = (wA11).heap.size := ⟨_, rfl⟩); (obtain ⟨wB12, hw_⟩ : ∃ w_, w_ = World.alloc wA11 (.cells #[.int .i64 0, .int .i64 0, .int .i64 0] 94) := ⟨_, rfl⟩); (rw [← hw_, ← hg_]); (have HS_ := A0_ (Sp.box HS.out #[.int .i64 0, .int .i64 0, .int .i64 0] 94)); (rw [← hw_, ← hg_] at HS_); clear HS; (have HS := HS_); clear HS_ hw_ hg_
       refine hK.out _ _ (⟨((HOA.out ▸ Sp.cbCells HS.out (i := 2) rfl k HKX.out).1), ((HOA.out ▸ Sp.cbCells HS.out (i := 2) rfl k HKX.out).2.1), ((HOA.out ▸ Sp.cbCells HS.out (i := 2) rfl k HKX.out).2.2)⟩) (fun hHeld => ?_)
       clear hK K; (refine nm_ (some 6) ?_)
       refine o1_ 7 (some 28) (fun K hK => ?_)
       (obtain ⟨hs0, hs1, hs2⟩ := Sp.cbCells HS.out (i := 1) rfl i HI6.out); (rw [HSI0.out] at hs0 hs1 hs2); (refine event_step (v := .agg #[.int .i64 si.f0, .int .i64 si.f1, .int .i64 si.f2]) (w1 := wB12) (by rfl) (by first | (go_simp; done) | (go_simp; rfl)) ?_); clear hs0 hs1 hs2
       refine hK.out _ _ (⟨((HOA.out ▸ Sp.cbCells HS.out (i := 2) rfl k HKX.out).1), ((HOA.out ▸ Sp.cbCells HS.out (i := 2) rfl k HKX.out).2.1), ((HOA.out ▸ Sp.cbCells HS.out (i := 2) rfl k HKX.out).2.2)⟩) (fun hHeld => ?_)
       clear hK K; (refine nm_ (some 28) ?_)
       refine o1_ 8 (some 29) (fun K hK => ?_)
       (refine gs_ Try.func89 #[.agg #[.int .i64 c.f0, .int .i64 c.f1, .int .i64 c.f2], .agg #[.int .i64 si.f0, .int .i64 si.f1, .int .i64 si.f2]] ?_); (refine (spec_l09Add.calls c.f0 c.f1 c.f2 si.f0 si.f1 si.f2 (addC c si).f0 (addC c si).f1 (addC c si).f2 _ rfl).mono ?_); (rintro e wA13 ⟨rfl, hb⟩); (refine ⟨_, rfl, ?_⟩); (replace HS := A0_ (Sp.far HS.out hb)); clear hb
       refine hK.out _ _ (⟨((HOA.out ▸ Sp.cbCells HS.out (i := 2) rfl k HKX.out).1), ((HOA.out ▸ Sp.cbCells HS.out (i := 2) rfl k HKX.out).2.1), ((HOA.out ▸ Sp.cbCells HS.out (i := 2) rfl k HKX.out).2.2)⟩) (fun hHeld => ?_)
       clear hK K; (refine nm_ (some 29) ?_)
       refine o1_ 10 none (fun K hK => ?_)
       (refine skip_ (w1 := wA13.setCells gx 0 (#[.int .i64 (addC c si).f0, .int .i64 (addC c si).f1, .int .i64 (addC c si).f2] : Array Value).toList) (by rfl) rfl (exec_store (v := .pointer (some ⟨gx, 0, none⟩)) (u := .agg #[.int .i64 (addC c si).f0, .int .i64 (addC c si).f1, .int .i64 (addC c si).f2]) rfl (by first | rfl | (go_simp; done) | (go_simp; rfl)) (by first | rfl | (go_simp; done) | (go_simp; rfl)) (Sp.blkStore HS.out (i := 0) rfl (.agg #[.int .i64 (addC c si).f0, .int .i64 (addC c si).f1, .int .i64 (addC c si).f2]) (#[.int .i64 (addC c si).f0, .int .i64 (addC c si).f1, .int .i64 (addC c si).f2]) rfl rfl (by kernel_rfl) (by first | (simp; done) | (simp [Value.oneCell']; done) | (simp; exact ⟨rfl, rfl, rfl⟩)))) ?_); (obtain ⟨wS14, hw_⟩ : ∃ w_, w_ = wA13.setCells gx 0 (#[.int .i64 (addC c si).f0, .int .i64 (addC c si).f1, .int .i64 (addC c si).f2] : Array Value).toList := ⟨_, rfl⟩); (rw [← hw_]); (have HS_ := A0_ (Sp.blkAll HS.out (i := 0) rfl (#[.int .i64 (addC c si).f0, .int .i64 (addC c si).f1, .int .i64 (addC c si).f2]) rfl)); (rw [← hw_] at HS_); clear HS; (have HS := HS_); clear HS_ hw_
       refine hK.out _ _ (⟨((HOA.out ▸ Sp.cbCells HS.out (i := 2) rfl k HKX.out).1), ((HOA.out ▸ Sp.cbCells HS.out (i := 2) rfl k HKX.out).2.1), ((HOA.out ▸ Sp.cbCells HS.out (i := 2) rfl k HKX.out).2.2)⟩) (fun hHeld => ?_)
       clear hK K; (refine dn_ ?_); (replace HS := A0_ (Sp.arr (pre := [Res.blk gx #[.int .i64 (addC c si).f0, .int .i64 (addC c si).f1, .int .i64 (addC c si).f2] 94, Res.row kC 94 w.heap.size (.slice (some ads) (stepsC).length cA11) (stepsC), Res.row kC 94 w.heap.size (.slice (some ado) (expI l0 o c i).length ca) (expI l0 o c i)]) (pre' := [Res.blk gx #[.int .i64 (addC c si).f0, .int .i64 (addC c si).f1, .int .i64 (addC c si).f2] 94, Res.row kC 94 w.heap.size (.slice (some ado) (expI l0 o c i).length ca) (expI l0 o c i), Res.row kC 94 w.heap.size (.slice (some ads) (stepsC).length cA11) (stepsC)]) (rest := ([] : List Res)) [0, 2, 1] HS.out rfl rfl)); (rw [show addC c si = x from hx.symm] at HS); (have HX6 := A0_ hx); clear hx; (have hx0 := (cl_ HS 0 0 rfl).trans rfl); (have hx1 := (cl_ HS 0 1 rfl).trans rfl); (have hx2 := (cl_ HS 0 2 rfl).trans rfl); (obtain ⟨Ka, ra, ha, hKa⟩ := HIX.out l0 x HZ.out.2); (have HKA := A0_ hKa)
       cases c1 : l0.contains x with
       | false =>
        (rw [c1] at ha); (have n0_ : decide (0 ≤ ra) = false := ha); (have n1_ : (0 ≤ ra) = False := eq_false (of_decide_eq_false ha)); (have HN := A0_ (show expI l0 o c (i + 1) = expI l0 o c i by rw [HES.out, ← HX6.out]; unfold addO; rw [c1, Bool.false_and, if_neg (by simp)])); clear c1 ha
        go_wp2_with (first
         | (go_at_call 110; refine (spec_l09Index.calls Ka (some ad0) c0 l0 x.f0 x.f1 x.f2 ra _ (Kd.C_below HR0.out HS.out.below) HC0.out HKA.out).mono ?_; rintro e wc_ ⟨rfl, hd_⟩; replace HS := A0_ (Sp.far HS.out hd_); clear hd_ hx0 hx1 hx2 HKA; have hx0 := (cl_ HS 0 0 rfl).trans rfl; have hx1 := (cl_ HS 0 1 rfl).trans rfl; have hx2 := (cl_ HS 0 2 rfl).trans rfl))
        (replace HS := A0_ (show Sp w [Res.row kC 94 w.heap.size (.slice (some ado) (expI l0 o c i).length ca) (expI l0 o c i)] _ from Sp.tail (Sp.out HS.out 2))); (go_roundg k2)
        case measure => omega
        case rel =>
         (rw [HWI.out]); (exact ⟨i + 1, some ado, ca, rfl, by rw [HN.out], ⟨by have := HI6.out; omega, by have := HY.out; omega⟩, ⟨by rw [HN.out]; exact HS.out⟩⟩)
       | true =>
        (rw [c1] at ha); (have n0_ : decide (0 ≤ ra) = true := ha); (have n1_ : (0 ≤ ra) = True := eq_true (of_decide_eq_true ha)); (obtain ⟨Kb, rb, hb, hKb⟩ := HIX.out (expI l0 o c i) x (by have := HFI.out.len; have := HZ.out.2; omega)); (have HKB := A0_ hKb); clear ha hKb
        cases c2 : (expI l0 o c i).contains x with
        | true =>
         (rw [c2] at hb); (have m0_ : decide (rb < 0) = false := decide_eq_false (by have := of_decide_eq_true hb; omega)); (have m1_ : (rb < 0) = False := eq_false (by have := of_decide_eq_true hb; omega)); (have HN := A0_ (show expI l0 o c (i + 1) = expI l0 o c i by rw [HES.out, ← HX6.out]; unfold addO; rw [c1, c2, Bool.not_true, Bool.and_false, if_neg (by simp)])); clear c1 c2 hb
         go_wp2_with (first
          | (go_at_call 110; refine (spec_l09Index.calls Ka (some ad0) c0 l0 x.f0 x.f1 x.f2 ra _ (Kd.C_below HR0.out HS.out.below) HC0.out HKA.out).mono ?_; rintro e wc_ ⟨rfl, hd_⟩; replace HS := A0_ (Sp.far HS.out hd_); clear hd_ hx0 hx1 hx2 HKA; have hx0 := (cl_ HS 0 0 rfl).trans rfl; have hx1 := (cl_ HS 0 1 rfl).trans rfl; have hx2 := (cl_ HS 0 2 rfl).trans rfl)
          | (go_at_call 110; refine (spec_l09Index.calls Kb (some ado) ca (expI l0 o c i) x.f0 x.f1 x.f2 rb _ (Sp.reads HS.out (i := 1) rfl).2.2 (Sp.reads HS.out (i := 1) rfl).2.1 HKB.out).mono ?_; rintro e wc_ ⟨rfl, hd_⟩; replace HS := A0_ (Sp.far HS.out hd_); clear hd_ hx0 hx1 hx2 HKB; have hx0 := (cl_ HS 0 0 rfl).trans rfl; have hx1 := (cl_ HS 0 1 rfl).trans rfl; have hx2 := (cl_ HS 0 2 rfl).trans rfl))
         (replace HS := A0_ (show Sp w [Res.row kC 94 w.heap.size (.slice (some ado) (expI l0 o c i).length ca) (expI l0 o c i)] _ from Sp.tail (Sp.out HS.out 2))); (go_roundg k2)
         case measure => omega
         case rel =>
          (rw [HWI.out]); (exact ⟨i + 1, some ado, ca, rfl, by rw [HN.out], ⟨by have := HI6.out; omega, by have := HY.out; omega⟩, ⟨by rw [HN.out]; exact HS.out⟩⟩)
        | false =>
         (rw [c2] at hb); (have m0_ : decide (rb < 0) = true := decide_eq_true (by have := of_decide_eq_false hb; omega)); (have m1_ : (rb < 0) = True := eq_true (by have := of_decide_eq_false hb; omega)); (have HN := A0_ (show expI l0 o c (i + 1) = expI l0 o c i ++ [x] by rw [HES.out, ← HX6.out]; unfold addO; rw [c1, c2, Bool.not_false, Bool.and_true, if_pos rfl])); clear c1 c2 hb; (replace HS := A0_ (show Sp w [Res.blk gx #[.int .i64 x.f0, .int .i64 x.f1, .int .i64 x.f2] 94, Res.row kC 94 w.heap.size (.slice (some ado) (expI l0 o c i).length ca) (expI l0 o c i)] _ from Sp.out HS.out 2))
         go_wp2_with (first
          | (go_at_call 110; refine (spec_l09Index.calls Ka (some ad0) c0 l0 x.f0 x.f1 x.f2 ra _ (Kd.C_below HR0.out HS.out.below) HC0.out HKA.out).mono ?_; rintro e wc_ ⟨rfl, hd_⟩; replace HS := A0_ (Sp.far HS.out hd_); clear hd_ hx0 hx1 hx2 HKA; have hx0 := (cl_ HS 0 0 rfl).trans rfl; have hx1 := (cl_ HS 0 1 rfl).trans rfl; have hx2 := (cl_ HS 0 2 rfl).trans rfl)
          | (go_at_call 110; refine (spec_l09Index.calls Kb (some ado) ca (expI l0 o c i) x.f0 x.f1 x.f2 rb _ (Sp.reads HS.out (i := 1) rfl).2.2 (Sp.reads HS.out (i := 1) rfl).2.1 HKB.out).mono ?_; rintro e wc_ ⟨rfl, hd_⟩; replace HS := A0_ (Sp.far HS.out hd_); clear hd_ hx0 hx1 hx2 HKB; have hx0 := (cl_ HS 0 0 rfl).trans rfl; have hx1 := (cl_ HS 0 1 rfl).trans rfl; have hx2 := (cl_ HS 0 2 rfl).trans rfl)
          | ((with_reducible refine gate_dst (N := 42) rfl ?_); refine Kd.R_lit kC _ 94 ?hg (N := 42) ?hd (xs := [x]) (inner := [.int .i64 x.f0, .int .i64 x.f1, .int .i64 x.f2]) (ok := fun _ => True) (okp := fun _ => True) ?hr ?hp (fun _ hk => hk) trivial (Below.refl _ _) (Nat.le_refl _) (by simp) ?_; (case hd => rfl); (case hg => rfl); (case hr => first | (go_simp; done) | (go_simp; rfl)); (case hp => exact (Reps.c3 (show Kd.M kC _ _ _ x [.int .i64 x.f0, .int .i64 x.f1, .int .i64 x.f2] from k94_mkM _ _ _ x) (Reps.none _ _))); intro vl_ wl_ ho_ hb_ hg_ hn_; clear hg_ hn_; replace HS := A0_ (Sp.made' HS.out hb_ ho_); clear ho_ hb_; obtain ⟨Ax, cx, ev_⟩ := Sp.slice HS.out (i := 0) rfl; subst ev_; clear hx0 hx1 hx2)
          | ((with_reducible refine gate_builtin (b := .append) (xs := #[.tmp 40, .tmp 42]) rfl ?_); at_builtin; obtain ⟨fp_, ho_, hf_, hc_⟩ := Sp.row HS.out (i := 2) rfl; refine Kd.R_append_rows kC (w0 := w) w.heap.size rfl (.tmp 40) (.tmp 42) 35 94 ((.agg #[(.int .i64 0), (.int .i64 0), (.int .i64 0)])) 24 rfl Try.underlying35 info94 rfl (by decide) (by omega) (.slice (some ado) (expI l0 o c i).length ca) (expI l0 o c i) ([x]) _ _ _ _ (fun _ => False) rfl rfl ho_ ((Sp.reads HS.out (i := 0) rfl).2.2) (fun _ _ h => h) (fun _ h => h.elim) (fun _ h => Or.inr h) HS.out.below HS.out.below.size ?aL ?_; (case aL => have := HFI.out.len; have := HZ.out.2; simp only [List.length_cons, List.length_nil]; omega); intro va_ wa_ ho hb hg hat; replace HS := A0_ (hc_ _ _ _ ho hg); clear ho hb hg hat hc_ hf_ ho_ fp_; obtain ⟨A2, c2_, ev_⟩ := Sp.slice HS.out (i := 2) rfl; subst ev_; rw [← HN.out] at HS))
         (replace HS := A0_ (show Sp w [Res.row kC 94 w.heap.size (.slice A2 (expI l0 o c (i + 1)).length c2_) (expI l0 o c (i + 1))] _ from Sp.tail (Sp.tail HS.out))); (go_roundg k2)
         case measure => omega
         case rel =>
          (rw [HWI.out]); (exact ⟨i + 1, A2, c2_, rfl, by rw [HN.out, List.length_append]; rfl, ⟨by have := HI6.out; omega, by have := HY.out; omega⟩, HS⟩)
     ·(refine event_step (v := .pointer (some ⟨wD.heap.size, 0, none⟩)) (w1 := wD.alloc (.cells #[.int .i64 0, .int .i64 0, .int .i64 0] 94)) (by rfl) (by first | (go_simp; done) | (go_simp; rfl)) ?_); (obtain ⟨gx, hg_⟩ : ∃ g_, g_ = (wD).heap.size := ⟨_, rfl⟩); (obtain ⟨wB11, hw_⟩ : ∃ w_, w_ = World.alloc wD (.cells #[.int .i64 0, .int .i64 0, .int .i64 0] 94) := ⟨_, rfl⟩); (rw [← hw_, ← hg_]); (have HS_ := A0_ (Sp.box HS.out #[.int .i64 0, .int .i64 0, .int .i64 0] 94)); (rw [← hw_, ← hg_] at HS_); clear HS; (have HS := HS_); clear HS_ hw_ hg_
      refine hK.out _ _ (⟨((HOA.out ▸ Sp.cbCells HS.out (i := 1) rfl k HKX.out).1), ((HOA.out ▸ Sp.cbCells HS.out (i := 1) rfl k HKX.out).2.1), ((HOA.out ▸ Sp.cbCells HS.out (i := 1) rfl k HKX.out).2.2)⟩) (fun hHeld => ?_)
      clear hK K; (refine nm_ (some 6) ?_)
      refine o1_ 4 (some 25) (fun K hK => ?_)
      (refine gs_ Try.func95 #[] ?_); (refine (spec_l09Steps.calls stepsC _ rfl).mono ?_); (rintro e wA12 ⟨vA12, rfl, ho, hb⟩); (refine ⟨_, rfl, ?_⟩); (replace HS := A0_ (Sp.made' HS.out hb ho)); clear hb ho; (obtain ⟨AA12, cA12, rfl⟩ := Sp.slice HS.out (i := 0) rfl); (obtain ⟨ads, es_, _⟩ := at_T94 (Sp.reads HS.out (i := 0) rfl).2.2 (0 : Int) (by omega) (by decide)); subst es_
      refine hK.out _ _ (⟨((HOA.out ▸ Sp.cbCells HS.out (i := 2) rfl k HKX.out).1), ((HOA.out ▸ Sp.cbCells HS.out (i := 2) rfl k HKX.out).2.1), ((HOA.out ▸ Sp.cbCells HS.out (i := 2) rfl k HKX.out).2.2)⟩) (fun hHeld => ?_)
      clear hK K; (refine nm_ (some 25) ?_); (refine on_ 6 (some 27) ?_)
      refine o1_ 7 (some 28) (fun K hK => ?_)
      (obtain ⟨hs0, hs1, hs2⟩ := Sp.cbCells HS.out (i := 0) rfl i HI6.out); (rw [HSI0.out] at hs0 hs1 hs2); (refine event_step (v := .agg #[.int .i64 si.f0, .int .i64 si.f1, .int .i64 si.f2]) (w1 := wA12) (by rfl) (by first | (go_simp; done) | (go_simp; rfl)) ?_); clear hs0 hs1 hs2
      refine hK.out _ _ (⟨((HOA.out ▸ Sp.cbCells HS.out (i := 2) rfl k HKX.out).1), ((HOA.out ▸ Sp.cbCells HS.out (i := 2) rfl k HKX.out).2.1), ((HOA.out ▸ Sp.cbCells HS.out (i := 2) rfl k HKX.out).2.2)⟩) (fun hHeld => ?_)
      clear hK K; (refine nm_ (some 28) ?_)
      refine o1_ 8 (some 29) (fun K hK => ?_)
      (refine gs_ Try.func89 #[.agg #[.int .i64 c.f0, .int .i64 c.f1, .int .i64 c.f2], .agg #[.int .i64 si.f0, .int .i64 si.f1, .int .i64 si.f2]] ?_); (refine (spec_l09Add.calls c.f0 c.f1 c.f2 si.f0 si.f1 si.f2 (addC c si).f0 (addC c si).f1 (addC c si).f2 _ rfl).mono ?_); (rintro e wA13 ⟨rfl, hb⟩); (refine ⟨_, rfl, ?_⟩); (replace HS := A0_ (Sp.far HS.out hb)); clear hb
      refine hK.out _ _ (⟨((HOA.out ▸ Sp.cbCells HS.out (i := 2) rfl k HKX.out).1), ((HOA.out ▸ Sp.cbCells HS.out (i := 2) rfl k HKX.out).2.1), ((HOA.out ▸ Sp.cbCells HS.out (i := 2) rfl k HKX.out).2.2)⟩) (fun hHeld => ?_)
      clear hK K; (refine nm_ (some 29) ?_)
      refine o1_ 10 none (fun K hK => ?_)
      (refine skip_ (w1 := wA13.setCells gx 0 (#[.int .i64 (addC c si).f0, .int .i64 (addC c si).f1, .int .i64 (addC c si).f2] : Array Value).toList) (by rfl) rfl (exec_store (v := .pointer (some ⟨gx, 0, none⟩)) (u := .agg #[.int .i64 (addC c si).f0, .int .i64 (addC c si).f1, .int .i64 (addC c si).f2]) rfl (by first | rfl | (go_simp; done) | (go_simp; rfl)) (by first | rfl | (go_simp; done) | (go_simp; rfl)) (Sp.blkStore HS.out (i := 1) rfl (.agg #[.int .i64 (addC c si).f0, .int .i64 (addC c si).f1, .int .i64 (addC c si).f2]) (#[.int .i64 (addC c si).f0, .int .i64 (addC c si).f1, .int .i64 (addC c si).f2]) rfl rfl (by kernel_rfl) (by first | (simp; done) | (simp [Value.oneCell']; done) | (simp; exact ⟨rfl, rfl, rfl⟩)))) ?_); (obtain ⟨wS14, hw_⟩ : ∃ w_, w_ = wA13.setCells gx 0 (#[.int .i64 (addC c si).f0, .int .i64 (addC c si).f1, .int .i64 (addC c si).f2] : Array Value).toList := ⟨_, rfl⟩); (rw [← hw_]); (have HS_ := A0_ (Sp.blkAll HS.out (i := 1) rfl (#[.int .i64 (addC c si).f0, .int .i64 (addC c si).f1, .int .i64 (addC c si).f2]) rfl)); (rw [← hw_] at HS_); clear HS; (have HS := HS_); clear HS_ hw_
      refine hK.out _ _ (⟨((HOA.out ▸ Sp.cbCells HS.out (i := 2) rfl k HKX.out).1), ((HOA.out ▸ Sp.cbCells HS.out (i := 2) rfl k HKX.out).2.1), ((HOA.out ▸ Sp.cbCells HS.out (i := 2) rfl k HKX.out).2.2)⟩) (fun hHeld => ?_)
      clear hK K; (refine dn_ ?_); (replace HS := A0_ (Sp.arr (pre := [Res.row kC 94 w.heap.size (.slice (some ads) (stepsC).length cA12) (stepsC), Res.blk gx #[.int .i64 (addC c si).f0, .int .i64 (addC c si).f1, .int .i64 (addC c si).f2] 94, Res.row kC 94 w.heap.size (.slice (some ado) (expI l0 o c i).length ca) (expI l0 o c i)]) (pre' := [Res.blk gx #[.int .i64 (addC c si).f0, .int .i64 (addC c si).f1, .int .i64 (addC c si).f2] 94, Res.row kC 94 w.heap.size (.slice (some ado) (expI l0 o c i).length ca) (expI l0 o c i), Res.row kC 94 w.heap.size (.slice (some ads) (stepsC).length cA12) (stepsC)]) (rest := ([] : List Res)) [1, 2, 0] HS.out rfl rfl)); (rw [show addC c si = x from hx.symm] at HS); (have HX6 := A0_ hx); clear hx; (have hx0 := (cl_ HS 0 0 rfl).trans rfl); (have hx1 := (cl_ HS 0 1 rfl).trans rfl); (have hx2 := (cl_ HS 0 2 rfl).trans rfl); (obtain ⟨Ka, ra, ha, hKa⟩ := HIX.out l0 x HZ.out.2); (have HKA := A0_ hKa)
      cases c1 : l0.contains x with
      | false =>
       (rw [c1] at ha); (have n0_ : decide (0 ≤ ra) = false := ha); (have n1_ : (0 ≤ ra) = False := eq_false (of_decide_eq_false ha)); (have HN := A0_ (show expI l0 o c (i + 1) = expI l0 o c i by rw [HES.out, ← HX6.out]; unfold addO; rw [c1, Bool.false_and, if_neg (by simp)])); clear c1 ha
       go_wp2_with (first
        | (go_at_call 110; refine (spec_l09Index.calls Ka (some ad0) c0 l0 x.f0 x.f1 x.f2 ra _ (Kd.C_below HR0.out HS.out.below) HC0.out HKA.out).mono ?_; rintro e wc_ ⟨rfl, hd_⟩; replace HS := A0_ (Sp.far HS.out hd_); clear hd_ hx0 hx1 hx2 HKA; have hx0 := (cl_ HS 0 0 rfl).trans rfl; have hx1 := (cl_ HS 0 1 rfl).trans rfl; have hx2 := (cl_ HS 0 2 rfl).trans rfl))
       (replace HS := A0_ (show Sp w [Res.row kC 94 w.heap.size (.slice (some ado) (expI l0 o c i).length ca) (expI l0 o c i)] _ from Sp.tail (Sp.out HS.out 2))); (go_roundg k2)
       case measure => omega
       case rel =>
        (rw [HWI.out]); (exact ⟨i + 1, some ado, ca, rfl, by rw [HN.out], ⟨by have := HI6.out; omega, by have := HY.out; omega⟩, ⟨by rw [HN.out]; exact HS.out⟩⟩)
      | true =>
       (rw [c1] at ha); (have n0_ : decide (0 ≤ ra) = true := ha); (have n1_ : (0 ≤ ra) = True := eq_true (of_decide_eq_true ha)); (obtain ⟨Kb, rb, hb, hKb⟩ := HIX.out (expI l0 o c i) x (by have := HFI.out.len; have := HZ.out.2; omega)); (have HKB := A0_ hKb); clear ha hKb
       cases c2 : (expI l0 o c i).contains x with
       | true =>
        (rw [c2] at hb); (have m0_ : decide (rb < 0) = false := decide_eq_false (by have := of_decide_eq_true hb; omega)); (have m1_ : (rb < 0) = False := eq_false (by have := of_decide_eq_true hb; omega)); (have HN := A0_ (show expI l0 o c (i + 1) = expI l0 o c i by rw [HES.out, ← HX6.out]; unfold addO; rw [c1, c2, Bool.not_true, Bool.and_false, if_neg (by simp)])); clear c1 c2 hb
        go_wp2_with (first
         | (go_at_call 110; refine (spec_l09Index.calls Ka (some ad0) c0 l0 x.f0 x.f1 x.f2 ra _ (Kd.C_below HR0.out HS.out.below) HC0.out HKA.out).mono ?_; rintro e wc_ ⟨rfl, hd_⟩; replace HS := A0_ (Sp.far HS.out hd_); clear hd_ hx0 hx1 hx2 HKA; have hx0 := (cl_ HS 0 0 rfl).trans rfl; have hx1 := (cl_ HS 0 1 rfl).trans rfl; have hx2 := (cl_ HS 0 2 rfl).trans rfl)
         | (go_at_call 110; refine (spec_l09Index.calls Kb (some ado) ca (expI l0 o c i) x.f0 x.f1 x.f2 rb _ (Sp.reads HS.out (i := 1) rfl).2.2 (Sp.reads HS.out (i := 1) rfl).2.1 HKB.out).mono ?_; rintro e wc_ ⟨rfl, hd_⟩; replace HS := A0_ (Sp.far HS.out hd_); clear hd_ hx0 hx1 hx2 HKB; have hx0 := (cl_ HS 0 0 rfl).trans rfl; have hx1 := (cl_ HS 0 1 rfl).trans rfl; have hx2 := (cl_ HS 0 2 rfl).trans rfl))
        (replace HS := A0_ (show Sp w [Res.row kC 94 w.heap.size (.slice (some ado) (expI l0 o c i).length ca) (expI l0 o c i)] _ from Sp.tail (Sp.out HS.out 2))); (go_roundg k2)
        case measure => omega
        case rel =>
         (rw [HWI.out]); (exact ⟨i + 1, some ado, ca, rfl, by rw [HN.out], ⟨by have := HI6.out; omega, by have := HY.out; omega⟩, ⟨by rw [HN.out]; exact HS.out⟩⟩)
       | false =>
        (rw [c2] at hb); (have m0_ : decide (rb < 0) = true := decide_eq_true (by have := of_decide_eq_false hb; omega)); (have m1_ : (rb < 0) = True := eq_true (by have := of_decide_eq_false hb; omega)); (have HN := A0_ (show expI l0 o c (i + 1) = expI l0 o c i ++ [x] by rw [HES.out, ← HX6.out]; unfold addO; rw [c1, c2, Bool.not_false, Bool.and_true, if_pos rfl])); clear c1 c2 hb; (replace HS := A0_ (show Sp w [Res.blk gx #[.int .i64 x.f0, .int .i64 x.f1, .int .i64 x.f2] 94, Res.row kC 94 w.heap.size (.slice (some ado) (expI l0 o c i).length ca) (expI l0 o c i)] _ from Sp.out HS.out 2))
        go_wp2_with (first
         | (go_at_call 110; refine (spec_l09Index.calls Ka (some ad0) c0 l0 x.f0 x.f1 x.f2 ra _ (Kd.C_below HR0.out HS.out.below) HC0.out HKA.out).mono ?_; rintro e wc_ ⟨rfl, hd_⟩; replace HS := A0_ (Sp.far HS.out hd_); clear hd_ hx0 hx1 hx2 HKA; have hx0 := (cl_ HS 0 0 rfl).trans rfl; have hx1 := (cl_ HS 0 1 rfl).trans rfl; have hx2 := (cl_ HS 0 2 rfl).trans rfl)
         | (go_at_call 110; refine (spec_l09Index.calls Kb (some ado) ca (expI l0 o c i) x.f0 x.f1 x.f2 rb _ (Sp.reads HS.out (i := 1) rfl).2.2 (Sp.reads HS.out (i := 1) rfl).2.1 HKB.out).mono ?_; rintro e wc_ ⟨rfl, hd_⟩; replace HS := A0_ (Sp.far HS.out hd_); clear hd_ hx0 hx1 hx2 HKB; have hx0 := (cl_ HS 0 0 rfl).trans rfl; have hx1 := (cl_ HS 0 1 rfl).trans rfl; have hx2 := (cl_ HS 0 2 rfl).trans rfl)
         | ((with_reducible refine gate_dst (N := 42) rfl ?_); refine Kd.R_lit kC _ 94 ?hg (N := 42) ?hd (xs := [x]) (inner := [.int .i64 x.f0, .int .i64 x.f1, .int .i64 x.f2]) (ok := fun _ => True) (okp := fun _ => True) ?hr ?hp (fun _ hk => hk) trivial (Below.refl _ _) (Nat.le_refl _) (by simp) ?_; (case hd => rfl); (case hg => rfl); (case hr => first | (go_simp; done) | (go_simp; rfl)); (case hp => exact (Reps.c3 (show Kd.M kC _ _ _ x [.int .i64 x.f0, .int .i64 x.f1, .int .i64 x.f2] from k94_mkM _ _ _ x) (Reps.none _ _))); intro vl_ wl_ ho_ hb_ hg_ hn_; clear hg_ hn_; replace HS := A0_ (Sp.made' HS.out hb_ ho_); clear ho_ hb_; obtain ⟨Ax, cx, ev_⟩ := Sp.slice HS.out (i := 0) rfl; subst ev_; clear hx0 hx1 hx2)
         | ((with_reducible refine gate_builtin (b := .append) (xs := #[.tmp 40, .tmp 42]) rfl ?_); at_builtin; obtain ⟨fp_, ho_, hf_, hc_⟩ := Sp.row HS.out (i := 2) rfl; refine Kd.R_append_rows kC (w0 := w) w.heap.size rfl (.tmp 40) (.tmp 42) 35 94 ((.agg #[(.int .i64 0), (.int .i64 0), (.int .i64 0)])) 24 rfl Try.underlying35 info94 rfl (by decide) (by omega) (.slice (some ado) (expI l0 o c i).length ca) (expI l0 o c i) ([x]) _ _ _ _ (fun _ => False) rfl rfl ho_ ((Sp.reads HS.out (i := 0) rfl).2.2) (fun _ _ h => h) (fun _ h => h.elim) (fun _ h => Or.inr h) HS.out.below HS.out.below.size ?aL ?_; (case aL => have := HFI.out.len; have := HZ.out.2; simp only [List.length_cons, List.length_nil]; omega); intro va_ wa_ ho hb hg hat; replace HS := A0_ (hc_ _ _ _ ho hg); clear ho hb hg hat hc_ hf_ ho_ fp_; obtain ⟨A2, c2_, ev_⟩ := Sp.slice HS.out (i := 2) rfl; subst ev_; rw [← HN.out] at HS))
        (replace HS := A0_ (show Sp w [Res.row kC 94 w.heap.size (.slice A2 (expI l0 o c (i + 1)).length c2_) (expI l0 o c (i + 1))] _ from Sp.tail (Sp.tail HS.out))); (go_roundg k2)
        case measure => omega
        case rel =>
         (rw [HWI.out]); (exact ⟨i + 1, A2, c2_, rfl, by rw [HN.out, List.length_append]; rfl, ⟨by have := HI6.out; omega, by have := HY.out; omega⟩, HS⟩)
    ·(have ci0 : decide (i < 6) = false := decide_eq_false ci); (have ci1 : (i < 6) = False := eq_false ci); (have ci2 : decide ((i : Int) < 6) = false := decide_eq_false (by omega)); (have ci3 : ((i : Int) < 6) = False := eq_false (by omega)); (have hi : i = 6 := by have := HY.out; omega); subst hi; clear ci; go_wp2; (go_roundg k1)
     case measure => omega
     case rel =>
      (rw [HW.out]); (have h1 := (HPR.out 6 (Nat.le_refl _)).1); (exact ⟨k + 1, expI l0 o c 6, A, ca, rfl, rfl, ⟨by omega, HFT.out 6 (Nat.le_refl _), by have := HX.out; omega⟩, ⟨by rw [HFIN.out, HNX.out]⟩, HS⟩)
  ·(have ck0 : decide (k < o.length) = false := decide_eq_false ck)
   have HNX := A0_ (show conP l0 = decide (o.length = l0.length) by
    (rw [HFIN.out]); (have h1 := HX.out.2.1.len); (have h2 := HX.out.1); (rw [show l0.length + 1 - k = (l0.length - k) + 1 from by omega]); (unfold bfsO); (rw [if_neg ck]))
   clear ck; (by_cases ce : o.length = l0.length)
   ·(have ce0 : (o.length == l0.length) = true := by rw [beq_iff_eq]; exact ce); (have ce1 : ((o.length : Int) == (l0.length : Int)) = true := by rw [beq_iff_eq]; omega); (have ce2 := eq_true ce); (rw [decide_eq_true ce] at HNX); clear ce; go_wp2; go_ret; (exact ⟨by rw [HNX.out]; rfl, HS.out.below⟩)
   ·(have ce0 : (o.length == l0.length) = false := by rw [beq_eq_false_iff_ne]; exact ce); (have ce1 : ((o.length : Int) == (l0.length : Int)) = false := by rw [beq_eq_false_iff_ne]; omega); (have ce2 := eq_false ce); (rw [decide_eq_false ce] at HNX); clear ce; go_wp2; go_ret; (exact ⟨by rw [HNX.out]; rfl, HS.out.below⟩)
def spec_IsAssembly.f (k : Nat) (l : List (List Cb)) : Option Bool := if l.length ≤ 1048576 ∧ ∀ p ∈ l, p.length ≤ 1048576 then some (asmS l) else none
theorem meetS_at (a b : List Cb) (ha : a.length ≤ 1048576) (hb : b.length ≤ 1048576) : ∃ K, spec_l27Meet.f K a b = some (meetS a b) := (smeet_ev a b ha hb).rounds
def sasF.T17 : Bool × List (List Nat × List Nat) := (true, [([], []), ([0], [0]), ([], []), ([1, 2], [1, 2]), ([3], [3]), ([], []), ([5], [5]), ([], []), ([6, 7], [6, 7]), ([8], [8]), ([4, 9], [4, 9])])
def sasF.B17 : List Nat := [0, 1, 0, 7, 15, 0, 32, 0, 224, 480, 1023]
theorem sasF.tab17 : rtab .any (opsOf Try.f55 17) = sasF.T17 := by kernel_rfl
theorem sasF.bits17 : waitsOk sasF.T17.2 sasF.B17 = true := by kernel_rfl
set_option maxHeartbeats 4000000 in
set_option maxRecDepth 100000 in
theorem spec_IsAssembly.calls (k : Nat) (A0 : Option Addr) (c0 : Nat) (l : List (List Cb)) (r : Bool) (w : World) (hr0 : Kd.C (Kd.slice 94 k94) w A0 l.length l) (hc0 : l.length ≤ c0) (h : spec_IsAssembly.f k l = some r) :
    Calls Try.prog 55 #[.agg #[.slice A0 l.length c0]] w fun e w' => e = .returned (.bool r) ∧ Below w.heap.size w w' := by
 (have hu32 := Try.underlying26); (have hu69 := Try.underlying94); (unfold spec_IsAssembly.f at h); (split at h)
 case isFalse => cases h
 (rename_i hz); (obtain rfl := Option.some.inj h); (have HR0 := A0_ hr0); (have HZ := A0_ hz); (have HS := A0_ (Sp.start w)); clear hr0 hz h
 cases hn : inR (l.length : Int) 2 4 with
 | false =>
  (have HF := A0_ (asmS_few l hn)); (have HIN := A0_ ((in_eq (l.length : Int) 2 4).trans (congrArg some hn))); clear hn; (go_enter Try.func55, Try.ntmps55)
  go_wp2_with (first
   | ((with_reducible refine gate_dst (N := 1) rfl ?_); refine be_ (N := 1) (cs := #[.slice A0 l.length c0]) (t := 26) ?_; intro ga hgb_ wb_ hcb_ hbb_; replace HS := A0_ (Sp.boxed HS.out hgb_ hcb_ hbb_); clear hgb_ hcb_ hbb_; have ha0 := (cl_ HS 0 0 rfl).trans rfl)
   | (go_at_call 64; refine (spec_l01In.calls (l.length : Int) 2 4 false _ HIN.out).mono ?_; rintro e wc_ ⟨rfl, hb_⟩; replace HS := A0_ (Sp.far HS.out hb_.below); clear hb_ ha0))
  go_ret; (exact ⟨by rw [HF.out]; rfl, HS.out.below⟩)
 | true =>
 (have HIN := A0_ ((in_eq (l.length : Int) 2 4).trans (congrArg some hn))); (have HL := A0_ (show 2 ≤ l.length ∧ l.length ≤ 4 by unfold inR at hn; rw [Bool.and_eq_true, decide_eq_true_eq, decide_eq_true_eq] at hn; omega)); (have HEND := A0_ (asmS_end l hn)); clear hn; (go_enter Try.func55, Try.ntmps55)
 go_wp2_with (first
  | ((with_reducible refine gate_dst (N := 1) rfl ?_); refine be_ (N := 1) (cs := #[.slice A0 l.length c0]) (t := 26) ?_; intro ga hgb_ wb_ hcb_ hbb_; replace HS := A0_ (Sp.boxed HS.out hgb_ hcb_ hbb_); clear hgb_ hcb_ hbb_; have ha0 := (cl_ HS 0 0 rfl).trans rfl)
  | (go_at_call 64; refine (spec_l01In.calls (l.length : Int) 2 4 true _ HIN.out).mono ?_; rintro e wc_ ⟨rfl, hb_⟩; replace HS := A0_ (Sp.far HS.out hb_.below); clear hb_ ha0))
 go_loopg [3] (l.length + 1) (fun kq v3 w' => ∃ (i : Nat), v3 = .int .i64 (i : Int) ∧ Aside0 (i ≤ l.length ∧ kq + i = l.length + 1 ∧ (List.range i).all (rowOk l) = true) ∧ Aside0 (Sp w [Res.blk ga #[.slice A0 l.length c0] 26] w'))
 case atStart => exact ⟨0, rfl, ⟨by omega, by omega, rfl⟩, HS⟩
 case round =>
  clear HS; (obtain ⟨i, rfl, HX, HS⟩ := hrel); (obtain ⟨k1, rfl⟩ : ∃ k1, gk = k1 + 1 := ⟨gk - 1, by have := HX.out; omega⟩); (have ha0 := (cl_ HS 0 0 rfl).trans rfl); (by_cases ci : i < l.length)
  ·(have ci0 : decide (i < l.length) = true := decide_eq_true ci); (have q0 : (0 ≤ (i : Int)) = True := eq_true (by omega)); (have q1 : ((i : Int) < (l.length : Int)) = True := eq_true (by omega)); (have q2 : (i < l.length) = True := eq_true ci); (have HW := A0_ (wrap_succ i (by have := HL.out; omega))); (have hno := asmS_no l i ci); (have hnx := range_next (rowOk l) i HX.out.2.2); (obtain ⟨adp, Ai, ci_, e, hx0, hx1, hx2⟩ := at_L3 HR0.out (i : Int) (by omega) (by omega)); subst e; (have hpl := HZ.out.2 _ (pAt_mem l i ci)); (rw [show rd_L3 l (i : Int) = pAt l i from rfl] at hx0 hx1 hx2); (rw [Int.toNat_natCast] at hx0); (unfold rowOk at hno hnx); (have HCI := A0_ ci); (obtain ⟨p, hp⟩ : ∃ p, p = pAt l i := ⟨_, rfl⟩); (rw [← hp] at hno hnx hx0 hx1 hx2 hpl); (have HP0 := A0_ hx0); (have HP1 := A0_ hx1); (have HP2 := A0_ hx2); (have HPL := A0_ hpl); (have hxi := pw_cell_below HS.out.below HP0.out); clear ci hp hx0 hx1 hx2
   cases b1 : solP p with
   | false =>
    (have HSO := A0_ (show spec_l09Solid.f 0 p = some false by unfold spec_l09Solid.f; rw [if_pos hpl, b1])); (have HF := A0_ (hno (by rw [b1, Bool.false_and]))); clear hno hnx b1 hpl
    go_wp2_with (first
     | (go_at_call 84; refine (spec_l09Solid.calls 0 Ai ci_ p false _ (Kd.C_below HP2.out HS.out.below) HP1.out HSO.out).mono ?_; rintro e wc_ ⟨rfl, hb_⟩; replace HS := A0_ (Sp.far HS.out hb_); clear hb_ ha0 hxi))
    go_ret; (exact ⟨by rw [HF.out]; rfl, HS.out.below⟩)
   | true =>
   (have HSO := A0_ (show spec_l09Solid.f 0 p = some true by unfold spec_l09Solid.f; rw [if_pos hpl, b1]))
   have h1 : 1 ≤ p.length := by
    (unfold solP at b1); (rw [Bool.and_eq_true, Bool.and_eq_true, decide_eq_true_eq] at b1); (exact b1.2.1)
   (rw [b1, Bool.true_and] at hno hnx); clear b1
   cases b2 : conP p with
   | false =>
    (have HCO := A0_ (show spec_l09Connected.f 0 p = some false by unfold spec_l09Connected.f; rw [if_pos ⟨h1, hpl⟩, b2])); (have HF := A0_ (hno (by rw [b2, Bool.false_and]))); clear hno hnx b2 hpl h1
    go_wp2_with (first
     | (go_at_call 84; refine (spec_l09Solid.calls 0 Ai ci_ p true _ (Kd.C_below HP2.out HS.out.below) HP1.out HSO.out).mono ?_; rintro e wc_ ⟨rfl, hb_⟩; replace HS := A0_ (Sp.far HS.out hb_); clear hb_ ha0 hxi; have ha0 := (cl_ HS 0 0 rfl).trans rfl; have hxi := pw_cell_below HS.out.below HP0.out)
     | (go_at_call 85; refine (spec_l09Connected.calls 0 Ai ci_ p false _ (Kd.C_below HP2.out HS.out.below) HP1.out HCO.out).mono ?_; rintro e wc_ ⟨rfl, hb_⟩; replace HS := A0_ (Sp.far HS.out hb_); clear hb_ ha0 hxi))
    go_ret; (exact ⟨by rw [HF.out]; rfl, HS.out.below⟩)
   | true =>
   (have HCO := A0_ (show spec_l09Connected.f 0 p = some true by unfold spec_l09Connected.f; rw [if_pos ⟨h1, hpl⟩, b2])); (rw [b2, Bool.true_and] at hno hnx); (have HNO := A0_ hno); (have HNX := A0_ hnx); clear hno hnx b2 hpl h1
   go_wp2_with (first
    | (go_at_call 84; refine (spec_l09Solid.calls 0 Ai ci_ p true _ (Kd.C_below HP2.out HS.out.below) HP1.out HSO.out).mono ?_; rintro e wc_ ⟨rfl, hb_⟩; replace HS := A0_ (Sp.far HS.out hb_); clear hb_ ha0 hxi; have ha0 := (cl_ HS 0 0 rfl).trans rfl; have hxi := pw_cell_below HS.out.below HP0.out)
    | (go_at_call 85; refine (spec_l09Connected.calls 0 Ai ci_ p true _ (Kd.C_below HP2.out HS.out.below) HP1.out HCO.out).mono ?_; rintro e wc_ ⟨rfl, hb_⟩; replace HS := A0_ (Sp.far HS.out hb_); clear hb_ ha0 hxi))
   go_loopg [4] (p.length + 1) (fun kq v4 w' => ∃ (j : Nat), v4 = .int .i64 (j : Int) ∧ Aside0 (j ≤ p.length ∧ kq + j = p.length + 1 ∧ (List.range j).all (fun c => inCb (cAt p c) 0 7) = true) ∧ Aside0 (Sp w [Res.blk ga #[.slice (some adp) l.length c0] 26] w'))
   case atStart => exact ⟨0, rfl, ⟨by omega, by omega, rfl⟩, HS⟩
   case round =>
    clear HS; (obtain ⟨j, rfl, HY, HS⟩ := hrel); (obtain ⟨k2, rfl⟩ : ∃ k2, gk = k2 + 1 := ⟨gk - 1, by have := HY.out; omega⟩); (have ha0 := (cl_ HS 0 0 rfl).trans rfl); (have hxi := pw_cell_below HS.out.below HP0.out); (by_cases cj : j < p.length)
    ·(have cj0 : decide (j < p.length) = true := decide_eq_true cj); (have p0 : (0 ≤ (j : Int)) = True := eq_true (by omega)); (have p1 : ((j : Int) < (p.length : Int)) = True := eq_true (by omega)); (have p2 : (j < p.length) = True := eq_true cj); (have HWJ := A0_ (wrap_succ j (by have := HPL.out; omega)))
     have HNJ := A0_ (range_next (fun c => inCb (cAt p c) 0 7) j HY.out.2.2)
     have HBJ := A0_ (fun h => HNO.out (by rw [range_no (fun c => inCb (cAt p c) 0 7) p.length j cj h, Bool.false_and]))
     (obtain ⟨adc, e, hx0, hx1, hx2⟩ := at_T94 (Kd.C_below HP2.out HS.out.below) (j : Int) (by omega) (by omega)); subst e; (rw [show rd_T94 p (j : Int) = cAt p j from rfl] at hx0 hx1 hx2); (rw [Int.toNat_natCast] at hx0 hx1 hx2); (have HCJ := A0_ cj); (obtain ⟨c, hc⟩ : ∃ c, c = cAt p j := ⟨_, rfl⟩); (rw [← hc] at hx0 hx1 hx2 HNJ HBJ); clear cj hc
     have hin : ∀ x : Int, spec_l01In.f x 0 7 = some (inR x 0 7) := fun x => in_eq x 0 7
     cases b0 : inR c.f0 0 7 with
     | false =>
      (have HB0 := A0_ ((hin c.f0).trans (congrArg some b0))); (have HF := A0_ (HBJ.out (by unfold inCb; rw [b0]; rfl))); clear b0 hin HNJ HBJ
      go_wp2_with (first
       | (go_at_call 64; obtain ⟨gc, hg_⟩ : ∃ g_, g_ = (wr).heap.size := ⟨_, rfl⟩; obtain ⟨wx, hw_⟩ : ∃ w_, w_ = (wr).alloc (.cells #[.int .i64 c.f0, .int .i64 c.f1, .int .i64 c.f2] 94) := ⟨_, rfl⟩; (try rw [← hw_]); (try rw [← hg_]); have HS_ := A0_ (Sp.box HS.out #[.int .i64 c.f0, .int .i64 c.f1, .int .i64 c.f2] 94); rw [← hw_, ← hg_] at HS_; clear HS; have HS := HS_; clear HS_ hw_ hg_; refine (spec_l01In.calls c.f0 0 7 false _ HB0.out).mono ?_; rintro e wc_ ⟨rfl, hb_⟩; replace HS := A0_ (Sp.far HS.out hb_.below); clear hb_ ha0 hxi hx0 hx1 hx2))
      go_ret; (exact ⟨by rw [HF.out]; rfl, HS.out.below⟩)
     | true =>
     (have HB0 := A0_ ((hin c.f0).trans (congrArg some b0)))
     cases b1 : inR c.f1 0 7 with
     | false =>
      (have HB1 := A0_ ((hin c.f1).trans (congrArg some b1))); (have HF := A0_ (HBJ.out (by unfold inCb; rw [b0, b1]; rfl))); clear b0 b1 hin HNJ HBJ
      go_wp2_with (first
       | (go_at_call 64; obtain ⟨gc, hg_⟩ : ∃ g_, g_ = (wr).heap.size := ⟨_, rfl⟩; obtain ⟨wx, hw_⟩ : ∃ w_, w_ = (wr).alloc (.cells #[.int .i64 c.f0, .int .i64 c.f1, .int .i64 c.f2] 94) := ⟨_, rfl⟩; (try rw [← hw_]); (try rw [← hg_]); have HS_ := A0_ (Sp.box HS.out #[.int .i64 c.f0, .int .i64 c.f1, .int .i64 c.f2] 94); rw [← hw_, ← hg_] at HS_; clear HS; have HS := HS_; clear HS_ hw_ hg_; refine (spec_l01In.calls c.f0 0 7 true _ HB0.out).mono ?_; rintro e wc_ ⟨rfl, hb_⟩; replace HS := A0_ (Sp.far HS.out hb_.below); clear hb_ ha0 hxi hx0 hx1 hx2 HB0; have hc1 := (cl_ HS 0 1 rfl).trans rfl)
       | (go_at_call 64; refine (spec_l01In.calls c.f1 0 7 false _ HB1.out).mono ?_; rintro e wc_ ⟨rfl, hb_⟩; replace HS := A0_ (Sp.far HS.out hb_.below); clear hb_ hc1))
      go_ret; (exact ⟨by rw [HF.out]; rfl, HS.out.below⟩)
     | true =>
     (have HB1 := A0_ ((hin c.f1).trans (congrArg some b1)))
     cases b2 : inR c.f2 0 7 with
     | false =>
      (have HB2 := A0_ ((hin c.f2).trans (congrArg some b2))); (have HF := A0_ (HBJ.out (by unfold inCb; rw [b0, b1, b2]; rfl))); clear b0 b1 b2 hin HNJ HBJ
      go_wp2_with (first
       | (go_at_call 64; obtain ⟨gc, hg_⟩ : ∃ g_, g_ = (wr).heap.size := ⟨_, rfl⟩; obtain ⟨wx, hw_⟩ : ∃ w_, w_ = (wr).alloc (.cells #[.int .i64 c.f0, .int .i64 c.f1, .int .i64 c.f2] 94) := ⟨_, rfl⟩; (try rw [← hw_]); (try rw [← hg_]); have HS_ := A0_ (Sp.box HS.out #[.int .i64 c.f0, .int .i64 c.f1, .int .i64 c.f2] 94); rw [← hw_, ← hg_] at HS_; clear HS; have HS := HS_; clear HS_ hw_ hg_; refine (spec_l01In.calls c.f0 0 7 true _ HB0.out).mono ?_; rintro e wc_ ⟨rfl, hb_⟩; replace HS := A0_ (Sp.far HS.out hb_.below); clear hb_ ha0 hxi hx0 hx1 hx2 HB0; have hc1 := (cl_ HS 0 1 rfl).trans rfl; have hc2 := (cl_ HS 0 2 rfl).trans rfl)
       | (go_at_call 64; refine (spec_l01In.calls c.f1 0 7 true _ HB1.out).mono ?_; rintro e wc_ ⟨rfl, hb_⟩; replace HS := A0_ (Sp.far HS.out hb_.below); clear hb_ hc1 hc2 HB1; have hc2 := (cl_ HS 0 2 rfl).trans rfl)
       | (go_at_call 64; refine (spec_l01In.calls c.f2 0 7 false _ HB2.out).mono ?_; rintro e wc_ ⟨rfl, hb_⟩; replace HS := A0_ (Sp.far HS.out hb_.below); clear hb_ hc2))
      go_ret; (exact ⟨by rw [HF.out]; rfl, HS.out.below⟩)
     | true =>
     (have HB2 := A0_ ((hin c.f2).trans (congrArg some b2))); (have HN := A0_ (HNJ.out (by unfold inCb; rw [b0, b1, b2]; rfl))); clear b0 b1 b2 hin HNJ HBJ
     go_wp2_with (first
      | (go_at_call 64; obtain ⟨gc, hg_⟩ : ∃ g_, g_ = (wr).heap.size := ⟨_, rfl⟩; obtain ⟨wx, hw_⟩ : ∃ w_, w_ = (wr).alloc (.cells #[.int .i64 c.f0, .int .i64 c.f1, .int .i64 c.f2] 94) := ⟨_, rfl⟩; (try rw [← hw_]); (try rw [← hg_]); have HS_ := A0_ (Sp.box HS.out #[.int .i64 c.f0, .int .i64 c.f1, .int .i64 c.f2] 94); rw [← hw_, ← hg_] at HS_; clear HS; have HS := HS_; clear HS_ hw_ hg_; refine (spec_l01In.calls c.f0 0 7 true _ HB0.out).mono ?_; rintro e wc_ ⟨rfl, hb_⟩; replace HS := A0_ (Sp.far HS.out hb_.below); clear hb_ ha0 hxi hx0 hx1 hx2 HB0; have hc1 := (cl_ HS 0 1 rfl).trans rfl; have hc2 := (cl_ HS 0 2 rfl).trans rfl)
      | (go_at_call 64; refine (spec_l01In.calls c.f1 0 7 true _ HB1.out).mono ?_; rintro e wc_ ⟨rfl, hb_⟩; replace HS := A0_ (Sp.far HS.out hb_.below); clear hb_ hc1 hc2 HB1; have hc2 := (cl_ HS 0 2 rfl).trans rfl)
      | (go_at_call 64; refine (spec_l01In.calls c.f2 0 7 true _ HB2.out).mono ?_; rintro e wc_ ⟨rfl, hb_⟩; replace HS := A0_ (Sp.far HS.out hb_.below); clear hb_ hc2 HB2))
     (replace HS := A0_ (Sp.tail HS.out)); (go_roundg k2)
     case measure => omega
     case rel =>
      (rw [HWJ.out]); (exact ⟨j + 1, rfl, ⟨by have := HCJ.out; omega, by have := HY.out; omega, HN.out⟩, HS⟩)
    ·(have cj0 : decide (j < p.length) = false := decide_eq_false cj); (have cj1 : (j < p.length) = False := eq_false cj); (have hj : j = p.length := by have := HY.out; omega); (have HALL := A0_ (hj ▸ HY.out.2.2)); (have hno := HNO.out); (have hnx := HNX.out); (rw [HALL.out, Bool.true_and] at hno hnx); (have HNO2 := A0_ hno); (have HNX2 := A0_ hnx); clear cj hj hno hnx HNO HNX HALL; go_wp2; clear hxi ha0
     go_loopg [6] (i + 1) (fun kq v6 w' => ∃ (j : Nat), v6 = .int .i64 (j : Int) ∧ Aside0 (j ≤ i ∧ kq + j = i + 1 ∧ (List.range j).all (fun q => !meetS p (pAt l q)) = true) ∧ Aside0 (Sp w [Res.blk ga #[.slice (some adp) l.length c0] 26] w'))
     case atStart => exact ⟨0, rfl, ⟨by omega, by omega, rfl⟩, HS⟩
     case round =>
      clear HS; (obtain ⟨j, rfl, HY2, HS⟩ := hrel); (obtain ⟨k2, rfl⟩ : ∃ k2, gk = k2 + 1 := ⟨gk - 1, by have := HY2.out; omega⟩); (by_cases cj : j < i)
      ·(have cj0 : decide (j < i) = true := decide_eq_true cj); (have p0 : (0 ≤ (j : Int)) = True := eq_true (by omega)); (have p1 : ((j : Int) < (l.length : Int)) = True := eq_true (by have := HCI.out; omega)); (have p2 : (j < l.length) = True := eq_true (by have := HCI.out; omega)); (have HWJ := A0_ (wrap_succ j (by have := HL.out; have := HCI.out; omega)))
       have HNJ := A0_ (range_next (fun q => !meetS p (pAt l q)) j HY2.out.2.2)
       have HBJ := A0_ (fun h => HNO2.out (range_no (fun q => !meetS p (pAt l q)) i j cj h))
       (obtain ⟨ad2, Aj, cj_, e, hx0, hx1, hx2⟩ := at_L3 HR0.out (j : Int) (by omega) (by have := HCI.out; omega)); (injection e with e); subst e; (have hpl := HZ.out.2 _ (pAt_mem l j (by have := HCI.out; omega))); (rw [show rd_L3 l (j : Int) = pAt l j from rfl] at hx0 hx1 hx2); (rw [Int.toNat_natCast] at hx0); (have HCJ := A0_ cj); (try dsimp only at HNJ HBJ); (obtain ⟨pj, hpj⟩ : ∃ pj, pj = pAt l j := ⟨_, rfl⟩); (rw [← hpj] at hx0 hx1 hx2 HNJ HBJ hpl); (have HJ0 := A0_ hx0); (have HJ1 := A0_ hx1); (have HJ2 := A0_ hx2); (obtain ⟨KM, hKM⟩ := meetS_at p pj HPL.out hpl); (have HME := A0_ hKM); clear cj hpj hx0 hx1 hx2 hKM hpl; (replace HS := A0_ (show Sp w ([Res.blk ga #[.slice (some adp) l.length c0] 26] ++ ([] : List Res)) wr.drew from Sp.drew HS.out)); go_wp2
       refine start_ (n := 11) (S := fun w' => w'.cell? ⟨ga, 0, none⟩ = some (.slice (some adp) l.length c0) ∧ w'.cell? (adp.add i) = some (.slice Ai p.length ci_) ∧ w'.cell? (adp.add j) = some (.slice Aj pj.length cj_)) (ds := []) #[ff,ff,ff,ff,ff,ff,ff,ff,ff,ff,ff] (by kernel_rfl) rfl rfl (⟨(cl_ HS 0 0 rfl).trans rfl, pw_cell_below HS.out.below HP0.out, pw_cell_below HS.out.below HJ0.out⟩) (fun hHeld => ?_)
       refine with_tabW sasF.tab17 sasF.bits17 (fun HT_ HW_ => ?_)
       (generalize wr.drew = wD at HS hHeld ⊢); (refine on_ 0 (some 74) ?_); (refine tk_ 1 (some 75) ?_); (refine on_ 2 (some 76) ?_); (refine on_ 3 (some 77) ?_); (refine tk_ 4 (some 78) ?_); (refine on_ 5 (some 79) ?_); (refine tk_ 6 (some 80) ?_); (refine on_ 7 (some 81) ?_); (refine on_ 8 (some 82) ?_); (refine tk_ 9 (some 83) ?_)
       refine o1_ 10 (some 84) (fun K hK => ?_)
       (refine gs_ Try.func86 #[.slice Ai p.length ci_, .slice Aj pj.length cj_] ?_); (refine (spec_l27Meet.calls KM Ai ci_ p Aj cj_ pj (meetS p pj) _ (Kd.C_below HP2.out HS.out.below) HP1.out (Kd.C_below HJ2.out HS.out.below) HJ1.out HME.out).mono ?_); (rintro e wA11 ⟨rfl, hb⟩); (refine ⟨_, rfl, ?_⟩); (replace HS := A0_ (Sp.far HS.out hb)); clear hb
       refine hK.out _ _ (⟨(cl_ HS 0 0 rfl).trans rfl, pw_cell_below HS.out.below HP0.out, pw_cell_below HS.out.below HJ0.out⟩) (fun hHeld => ?_)
       clear hK K; (refine nm_ (some 84) ?_); (refine dn_ ?_)
       cases hm : meetS p pj with
       | true =>
        (have HF := A0_ (HBJ.out (by rw [hm]; rfl))); clear HNJ HBJ; (try rw [hm]); go_wp2; go_ret; (exact ⟨by rw [HF.out]; rfl, HS.out.below⟩)
       | false =>
        (have HN := A0_ (HNJ.out (by rw [hm]; rfl))); clear HNJ HBJ; (try rw [hm]); go_wp2; (go_roundg k2)
        case measure => omega
        case rel =>
         (rw [HWJ.out]); (exact ⟨j + 1, rfl, ⟨by have := HCJ.out; omega, by have := HY2.out; omega, HN.out⟩, HS⟩)
      ·(have cj0 : decide (j < i) = false := decide_eq_false cj); (have cj1 : (j < i) = False := eq_false cj); (have hj : j = i := by have := HY2.out; omega); (have HN := A0_ (HNX2.out (hj ▸ HY2.out.2.2))); clear cj hj; go_wp2; (go_roundg k1)
       case measure => omega
       case rel =>
        (rw [HW.out]); (exact ⟨i + 1, rfl, ⟨by have := HCI.out; omega, by have := HX.out; omega, HN.out⟩, HS⟩)
  ·(have ci0 : decide (i < l.length) = false := decide_eq_false ci); (have ci1 : (i < l.length) = False := eq_false ci); (have hi : i = l.length := by have := HX.out; omega); (have HF := A0_ (HEND.out (hi ▸ HX.out.2.2))); clear ci hi; go_wp2; go_ret; (exact ⟨by rw [HF.out]; rfl, HS.out.below⟩)
end Go.Proofs.Ytcobnlilmihjfaa.A
