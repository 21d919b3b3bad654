/- What the row of the law FnExactCountCovers stands on, part 3. -/
import Derived.Test.YtoglcgnbkibpgaaDoorMFnExactCountCovers2
namespace Go.Proofs.YtoglcgnbkibpgaaDoor.A
open Go.RowKit Go.Proofs.YtoglcgnbkibpgaaDoorW.PrintWords Go.Proofs.YtoglcgnbkibpgaaDoorW.PrintLast Go.Proofs.YtoglcgnbkibpgaaDoorW.PrintMore
attribute [local go_sem] max2_int min2_int max_two min_two max_three min_three max_four min_four   -- for this text's walks alone
set_option linter.unusedVariables false
set_option linter.unusedSimpArgs false
def laws_FnExactCountCovers.j0 : Nat → Bool → Int → Int → List (List Int) → Int → Int → List (List Int) → Option (Bool)
  | 0, _, _, _, _, _, _, _ => none
  | k + 1, x34, x234000, x234001, x234002, x248000, x248001, x248002 => if x34 = true then (some false) else ((laws_toCover.f k x234000 x234001 x234002).bind fun bt250 => ((laws_eqCover.f k x248000 x248001 x248002 bt250.1 bt250.2.1 bt250.2.2).bind fun t255 => (if t255 = true then (some true) else (some false))))
def laws_FnExactCountCovers.f (k : Nat) (a0_0 : Int) (a0_1 : Int) (l0_2 : List (List Int)) : Option (Bool) := (laws_szCover.f k a0_0 a0_1 l0_2 1048576).bind fun t234 => (if t234 < 0 then (some true) else ((laws_toCover.f k a0_0 a0_1 l0_2).bind fun bt235 => ((spec_CountCovers.f k bt235.1 bt235.2.1 bt235.2.2).bind fun bt240 => ((laws_toCover.f k a0_0 a0_1 l0_2).bind fun bt242 => ((impl_CountCovers.f k bt242.1 bt242.2.1 bt242.2.2).bind fun bt248 => (if bt248.1 = bt240.1 then (laws_FnExactCountCovers.j0 k (bt248.2 != bt240.2) a0_0 a0_1 l0_2 bt242.1 bt242.2.1 bt242.2.2) else (laws_FnExactCountCovers.j0 k true a0_0 a0_1 l0_2 bt242.1 bt242.2.1 bt242.2.2)))))))
set_option maxHeartbeats 8000000 in
set_option maxRecDepth 100000 in
theorem laws_FnExactCountCovers.calls (k : Nat) (a0_0 : Int) (a0_1 : Int) (A0_2 : Option Addr) (c0_2 : Nat) (l0_2 : List (List Int)) (r : Bool) (w : World) (hr0_2 : Kd.C (Kd.slice 2 (Kd.int .i64)) w A0_2 l0_2.length l0_2) (hc0_2 : l0_2.length ≤ c0_2) (hT : TabAt 0 Lib.deBruijn64tab w) (h : laws_FnExactCountCovers.f k a0_0 a0_1 l0_2 = some r) :
    Calls Tryd.prog 4 #[.agg #[.int .i64 a0_0, .int .i64 a0_1, .slice A0_2 l0_2.length c0_2]] w fun e w' => e = .returned (.bool r) ∧ Below w.heap.size w w' := by
 (have HT := A0_ hT); clear hT; (have hu24 := Tryd.underlying24); (have hu28 := Tryd.underlying28); (have HR0_2 := A0_ hr0_2); (have HC0_2 := A0_ hc0_2); clear hr0_2 hc0_2; (have HB := A0_ (Below.refl w.heap.size w))
 have H : ((laws_szCover.f k a0_0 a0_1 l0_2 1048576).bind fun t234 => (if t234 < 0 then (some true) else ((laws_toCover.f k a0_0 a0_1 l0_2).bind fun bt235 => ((spec_CountCovers.f k bt235.1 bt235.2.1 bt235.2.2).bind fun bt240 => ((laws_toCover.f k a0_0 a0_1 l0_2).bind fun bt242 => ((impl_CountCovers.f k bt242.1 bt242.2.1 bt242.2.2).bind fun bt248 => (if bt248.1 = bt240.1 then (laws_FnExactCountCovers.j0 k (bt248.2 != bt240.2) a0_0 a0_1 l0_2 bt242.1 bt242.2.1 bt242.2.2) else (laws_FnExactCountCovers.j0 k true a0_0 a0_1 l0_2 bt242.1 bt242.2.1 bt242.2.2)))))))) = some r := h
 clear h; (replace H := Option.bind_eq_some_iff.mp H); (obtain ⟨t234, A20, H⟩ := H); (try dsimp only at H); (have A2 := A0_ A20); clear A20; (by_cases c3 : t234 < 0)
 ·(rw [if_pos c3] at H); (have c3b0 : decide (t234 < 0) = true := decide_eq_true c3); clear c3; (obtain rfl := Option.some.inj H); (go_enter Tryd.func4, Tryd.ntmps4); (go_wp2_with (first | ((with_reducible refine gate_dst (N := 1) rfl ?_); refine box_event ?hg (N := 1) ?hd (cs := #[.int .i64 a0_0, .int .i64 a0_1, .slice A0_2 l0_2.length c0_2]) (t := 24) ?hr ?_; (case hd => rfl); (case hg => rfl); (case hr => first | (go_simp; done) | (go_simp; rfl)); intro gb233 hg w4 hbox hb; have n0_ := A0_ (below_step (by repeat (first | (with_reducible first | exact HB.out | apply ba_ | apply bn_ | apply bd_) | exact HB.out)) hb); have n1_ := A0_ (hbox); have n2_ := A0_ ((by rw [hg]; exact (below_size (by repeat (first | (with_reducible first | exact HB.out | apply ba_ | apply bn_ | apply bd_) | exact HB.out))) : w.heap.size ≤ gb233)); have n3_ := A0_ ((by rw [hg]; exact (below_size (by repeat (first | (with_reducible first | exact HB.out | apply ba_ | apply bn_ | apply bd_) | exact HB.out))) : w.heap.size ≤ gb233)); clear HB; have HB := n0_; have BK233 := n1_; have GW233 := n2_; have GE233 := n3_; clear n0_ n1_ n2_ n3_; clear hb hbox hg; have hcz5_0 : w4.cell? ⟨gb233, 0, none⟩ = some (.int .i64 a0_0) := (blk_cell BK233.out 0).trans rfl; have hcz5_1 : w4.cell? ⟨gb233, 1, none⟩ = some (.int .i64 a0_1) := (blk_cell BK233.out 1).trans rfl; have hcz5_2 : w4.cell? ⟨gb233, 2, none⟩ = some (.slice A0_2 l0_2.length c0_2) := (blk_cell BK233.out 2).trans rfl; have hfz5_0 := blk_frozen BK233.out 0; have hfz5_1 := blk_frozen BK233.out 1; have hfz5_2 := blk_frozen BK233.out 2) | ((with_reducible refine gate_callee (f := 10) rfl ?_); refine goesL_ (some 11) rfl rfl Tryd.func10 (by kernel_rfl) rfl #[.agg #[.int .i64 a0_0, .int .i64 a0_1, .slice A0_2 l0_2.length c0_2], .int .i64 1048576] rfl (by (try simp only [List.map_toArray, List.map_cons, List.map_nil]); first | done | rfl | (simp only [List.length_drop, List.length_take]; rfl)) ?_; (with_reducible refine (laws_szCover.calls k a0_0 a0_1 _ _ l0_2 1048576 t234 _ ?side1 ?side2 A2.out).mono ?_); (case side1 => repeat (first | exact (Kd.C_below HR0_2.out HB.out) | (with_reducible refine Kd.C_alloc ?_ _) | (with_reducible refine Kd.C_drewN ?_ _) | (with_reducible refine Kd.C_drew ?_))); (case side2 => exact HC0_2.out); rintro e w6 ⟨rfl, hb⟩; refine ⟨_, rfl, ?_⟩; have n0_ := A0_ (blk_below (g := gb233) (o := .cells #[.int .i64 a0_0, .int .i64 a0_1, .slice A0_2 l0_2.length c0_2] 24 (0, 0)) (by (with_reducible repeat (first | apply gn_ | apply gd_ | apply ga_)); exact BK233.out) hb); have n1_ := A0_ (below_step (by repeat (first | (with_reducible first | exact HB.out | apply ba_ | apply bn_ | apply bd_ | refine below_set ?_ GE233.out) | exact HB.out)) hb); clear BK233; clear HB; have BK233 := n0_; have HB := n1_; clear n0_ n1_; (try clear hb); (try clear hb2); (try clear hk); (try clear hi)))); go_ret; (exact ⟨by first | rfl | (simp [errW_none, errW_some] <;> rfl) | (simp [*, errW_none, errW_some] <;> rfl), by repeat (first | (with_reducible first | exact HB.out | apply ba_ | apply bn_ | apply bd_ | refine below_set ?_ GE233.out) | exact HB.out)⟩)
 ·(rw [if_neg c3] at H); (have c3b0 : decide (t234 < 0) = false := decide_eq_false c3); clear c3; (replace H := Option.bind_eq_some_iff.mp H); (obtain ⟨⟨t235, t236, t237⟩, A70, H⟩ := H); (try dsimp only at H); (have A7 := A0_ A70); clear A70; (replace H := Option.bind_eq_some_iff.mp H); (obtain ⟨⟨t240, t241⟩, A80, H⟩ := H); (try dsimp only at H); (have A8 := A0_ A80); clear A80; (replace H := Option.bind_eq_some_iff.mp H); (obtain ⟨⟨t242, t243, t244⟩, A90, H⟩ := H); (try dsimp only at H); (have A9 := A0_ A90); clear A90; (replace H := Option.bind_eq_some_iff.mp H); (obtain ⟨⟨t248, t249⟩, A100, H⟩ := H); (try dsimp only at H); (have A10 := A0_ A100); clear A100; (have HC11 := A0_ H); clear H; (go_enter Tryd.func4, Tryd.ntmps4)
  go_upto_region 8 with (first | ((with_reducible refine gate_dst (N := 1) rfl ?_); refine box_event ?hg (N := 1) ?hd (cs := #[.int .i64 a0_0, .int .i64 a0_1, .slice A0_2 l0_2.length c0_2]) (t := 24) ?hr ?_; (case hd => rfl); (case hg => rfl); (case hr => first | (go_simp; done) | (go_simp; rfl)); intro gb233 hg w12 hbox hb; have n0_ := A0_ (below_step (by repeat (first | (with_reducible first | exact HB.out | apply ba_ | apply bn_ | apply bd_) | exact HB.out)) hb); have n1_ := A0_ (hbox); have n2_ := A0_ ((by rw [hg]; exact (below_size (by repeat (first | (with_reducible first | exact HB.out | apply ba_ | apply bn_ | apply bd_) | exact HB.out))) : w.heap.size ≤ gb233)); have n3_ := A0_ ((by rw [hg]; exact (below_size (by repeat (first | (with_reducible first | exact HB.out | apply ba_ | apply bn_ | apply bd_) | exact HB.out))) : w.heap.size ≤ gb233)); clear HB; have HB := n0_; have BK233 := n1_; have GW233 := n2_; have GE233 := n3_; clear n0_ n1_ n2_ n3_; clear hb hbox hg; have hcz13_0 : w12.cell? ⟨gb233, 0, none⟩ = some (.int .i64 a0_0) := (blk_cell BK233.out 0).trans rfl; have hcz13_1 : w12.cell? ⟨gb233, 1, none⟩ = some (.int .i64 a0_1) := (blk_cell BK233.out 1).trans rfl; have hcz13_2 : w12.cell? ⟨gb233, 2, none⟩ = some (.slice A0_2 l0_2.length c0_2) := (blk_cell BK233.out 2).trans rfl; have hfz13_0 := blk_frozen BK233.out 0; have hfz13_1 := blk_frozen BK233.out 1; have hfz13_2 := blk_frozen BK233.out 2) | ((with_reducible refine gate_callee (f := 10) rfl ?_); refine goesL_ (some 11) rfl rfl Tryd.func10 (by kernel_rfl) rfl #[.agg #[.int .i64 a0_0, .int .i64 a0_1, .slice A0_2 l0_2.length c0_2], .int .i64 1048576] rfl (by (try simp only [List.map_toArray, List.map_cons, List.map_nil]); first | done | rfl | (simp only [List.length_drop, List.length_take]; rfl)) ?_; (with_reducible refine (laws_szCover.calls k a0_0 a0_1 _ _ l0_2 1048576 t234 _ ?side1 ?side2 A2.out).mono ?_); (case side1 => repeat (first | exact (Kd.C_below HR0_2.out HB.out) | (with_reducible refine Kd.C_alloc ?_ _) | (with_reducible refine Kd.C_drewN ?_ _) | (with_reducible refine Kd.C_drew ?_))); (case side2 => exact HC0_2.out); rintro e w14 ⟨rfl, hb⟩; refine ⟨_, rfl, ?_⟩; have n0_ := A0_ (blk_below (g := gb233) (o := .cells #[.int .i64 a0_0, .int .i64 a0_1, .slice A0_2 l0_2.length c0_2] 24 (0, 0)) (by (with_reducible repeat (first | apply gn_ | apply gd_ | apply ga_)); exact BK233.out) hb); have n1_ := A0_ (below_step (by repeat (first | (with_reducible first | exact HB.out | apply ba_ | apply bn_ | apply bd_ | refine below_set ?_ GE233.out) | exact HB.out)) hb); clear BK233; clear HB; have BK233 := n0_; have HB := n1_; clear n0_ n1_; (try clear hb); (try clear hb2); (try clear hk); (try clear hi); have hcz15_0 : w14.cell? ⟨gb233, 0, none⟩ = some (.int .i64 a0_0) := (blk_cell BK233.out 0).trans rfl; have hcz15_1 : w14.cell? ⟨gb233, 1, none⟩ = some (.int .i64 a0_1) := (blk_cell BK233.out 1).trans rfl; have hcz15_2 : w14.cell? ⟨gb233, 2, none⟩ = some (.slice A0_2 l0_2.length c0_2) := (blk_cell BK233.out 2).trans rfl; have hfz15_0 := blk_frozen BK233.out 0; have hfz15_1 := blk_frozen BK233.out 1; have hfz15_2 := blk_frozen BK233.out 2) | ((with_reducible refine gate_callee (f := 12) rfl ?_); refine goesL_ (some 16) rfl rfl Tryd.func12 (by kernel_rfl) rfl #[.agg #[.int .i64 a0_0, .int .i64 a0_1, .slice A0_2 l0_2.length c0_2]] rfl (by (try simp only [List.map_toArray, List.map_cons, List.map_nil]); first | done | rfl | (simp only [List.length_drop, List.length_take]; rfl)) ?_; (with_reducible refine (laws_toCover.calls k a0_0 a0_1 _ _ l0_2 t235 t236 t237 _ ?side1 ?side2 A7.out).mono ?_); (case side1 => repeat (first | exact (Kd.C_below HR0_2.out HB.out) | (with_reducible refine Kd.C_alloc ?_ _) | (with_reducible refine Kd.C_drewN ?_ _) | (with_reducible refine Kd.C_drew ?_))); (case side2 => exact HC0_2.out); rintro e w16 ⟨v238, rfl, ho0, hb⟩; refine ⟨_, rfl, ?_⟩; have n0_ := A0_ (Kd.S_lower ho0 (below_size (by repeat (first | (with_reducible first | exact HB.out | apply ba_ | apply bn_ | apply bd_ | refine below_set ?_ GE233.out) | exact HB.out)))); have n1_ := A0_ (blk_below (g := gb233) (o := .cells #[.int .i64 a0_0, .int .i64 a0_1, .slice A0_2 l0_2.length c0_2] 24 (0, 0)) (by (with_reducible repeat (first | apply gn_ | apply gd_ | apply ga_)); exact BK233.out) hb); have n2_ := A0_ (below_step (by repeat (first | (with_reducible first | exact HB.out | apply ba_ | apply bn_ | apply bd_ | refine below_set ?_ GE233.out) | exact HB.out)) hb); clear BK233; clear HB; have HO239 := n0_; have BK233 := n1_; have HB := n2_; clear n0_ n1_ n2_; (try clear hb); (try clear hb2); (try clear hk); (try clear hi); (try clear ho0); obtain ⟨Ao17, co17, eo17⟩ := Kd.S_slice HO239.out; subst eo17) | ((with_reducible refine gate_callee (f := 15) rfl ?_); refine goesL_ (some 17) rfl rfl Tryd.func15 (by kernel_rfl) rfl #[.agg #[.int .i64 t235, .int .i64 t236, .slice Ao17 t237.length co17]] rfl (by (try simp only [List.map_toArray, List.map_cons, List.map_nil]); first | done | rfl | (simp only [List.length_drop, List.length_take]; rfl)) ?_; (with_reducible refine (spec_CountCovers.calls k t235 t236 _ _ t237 t240 t241 _ ?side1 ?side2 A8.out).mono ?_); (case side1 => repeat (first | exact (Kd.S_reads' HO239.out).2.2 | (with_reducible refine Kd.C_alloc ?_ _) | (with_reducible refine Kd.C_drewN ?_ _) | (with_reducible refine Kd.C_drew ?_))); (case side2 => exact (Kd.S_reads' HO239.out).2.1); rintro e w18 ⟨rfl, hb⟩; refine ⟨_, rfl, ?_⟩; have n0_ := A0_ (Kd.S_below (by (with_reducible repeat (first | apply Kd.S_alloc | apply Kd.S_drewN | apply Kd.S_drew)); exact HO239.out) hb); have n1_ := A0_ (blk_below (g := gb233) (o := .cells #[.int .i64 a0_0, .int .i64 a0_1, .slice A0_2 l0_2.length c0_2] 24 (0, 0)) (by (with_reducible repeat (first | apply gn_ | apply gd_ | apply ga_)); exact BK233.out) hb); have n2_ := A0_ (below_step (by repeat (first | (with_reducible first | exact HB.out | apply ba_ | apply bn_ | apply bd_ | refine below_set ?_ GE233.out) | exact HB.out)) hb); clear HO239; clear BK233; clear HB; have HO239 := n0_; have BK233 := n1_; have HB := n2_; clear n0_ n1_ n2_; (try clear hb); (try clear hb2); (try clear hk); (try clear hi); have hcz19_0 : w18.cell? ⟨gb233, 0, none⟩ = some (.int .i64 a0_0) := (blk_cell BK233.out 0).trans rfl; have hcz19_1 : w18.cell? ⟨gb233, 1, none⟩ = some (.int .i64 a0_1) := (blk_cell BK233.out 1).trans rfl; have hcz19_2 : w18.cell? ⟨gb233, 2, none⟩ = some (.slice A0_2 l0_2.length c0_2) := (blk_cell BK233.out 2).trans rfl; have hfz19_0 := blk_frozen BK233.out 0; have hfz19_1 := blk_frozen BK233.out 1; have hfz19_2 := blk_frozen BK233.out 2) | ((with_reducible refine gate_callee (f := 12) rfl ?_); refine goesL_ (some 21) rfl rfl Tryd.func12 (by kernel_rfl) rfl #[.agg #[.int .i64 a0_0, .int .i64 a0_1, .slice A0_2 l0_2.length c0_2]] rfl (by (try simp only [List.map_toArray, List.map_cons, List.map_nil]); first | done | rfl | (simp only [List.length_drop, List.length_take]; rfl)) ?_; (with_reducible refine (laws_toCover.calls k a0_0 a0_1 _ _ l0_2 t242 t243 t244 _ ?side1 ?side2 A9.out).mono ?_); (case side1 => repeat (first | exact (Kd.C_below HR0_2.out HB.out) | (with_reducible refine Kd.C_alloc ?_ _) | (with_reducible refine Kd.C_drewN ?_ _) | (with_reducible refine Kd.C_drew ?_))); (case side2 => exact HC0_2.out); rintro e w20 ⟨v245, rfl, ho0, hb⟩; refine ⟨_, rfl, ?_⟩; have n0_ := A0_ (Kd.S_elder' (by (with_reducible repeat (first | apply Kd.S_alloc | apply Kd.S_drewN | apply Kd.S_drew)); exact HO239.out) (Kd.S_base ho0) hb); have n1_ := A0_ (Kd.S_lower (Kd.S_new' ho0 (Kd.S_lt (by (with_reducible repeat (first | apply Kd.S_alloc | apply Kd.S_drewN | apply Kd.S_drew)); exact HO239.out))) (below_size (by repeat (first | (with_reducible first | exact HB.out | apply ba_ | apply bn_ | apply bd_ | refine below_set ?_ GE233.out) | exact HB.out)))); have n2_ := A0_ (blk_below (g := gb233) (o := .cells #[.int .i64 a0_0, .int .i64 a0_1, .slice A0_2 l0_2.length c0_2] 24 (0, 0)) (by (with_reducible repeat (first | apply gn_ | apply gd_ | apply ga_)); exact BK233.out) hb); have n3_ := A0_ (below_step (by repeat (first | (with_reducible first | exact HB.out | apply ba_ | apply bn_ | apply bd_ | refine below_set ?_ GE233.out) | exact HB.out)) hb); clear HO239; clear BK233; clear HB; have HO239 := n0_; have HO246 := n1_; have BK233 := n2_; have HB := n3_; clear n0_ n1_ n2_ n3_; (try clear hb); (try clear hb2); (try clear hk); (try clear hi); (try clear ho0)) | ((with_reducible refine gate_dst (N := 6) rfl ?_); refine box_event ?hg (N := 6) ?hd (cs := #[.int .i64 0, .int .i64 0, .slice none 0 0]) (t := 28) ?hr ?_; (case hd => rfl); (case hg => rfl); (case hr => first | (go_simp; done) | (go_simp; rfl)); intro gb247 hg w21 hbox hb; have n0_ := A0_ (Kd.S_below (by (with_reducible repeat (first | apply Kd.S_alloc | apply Kd.S_drewN | apply Kd.S_drew)); exact HO239.out) hb); have n1_ := A0_ (Kd.S_below (by (with_reducible repeat (first | apply Kd.S_alloc | apply Kd.S_drewN | apply Kd.S_drew)); exact HO246.out) hb); have n2_ := A0_ (blk_below (g := gb233) (o := .cells #[.int .i64 a0_0, .int .i64 a0_1, .slice A0_2 l0_2.length c0_2] 24 (0, 0)) (by (with_reducible repeat (first | apply gn_ | apply gd_ | apply ga_)); exact BK233.out) hb); have n3_ := A0_ (below_step (by repeat (first | (with_reducible first | exact HB.out | apply ba_ | apply bn_ | apply bd_ | refine below_set ?_ GE233.out) | exact HB.out)) hb); have n4_ := A0_ (hbox); have n5_ := A0_ ((by rw [hg]; exact (below_size (by repeat (first | (with_reducible first | exact HB.out | apply ba_ | apply bn_ | apply bd_ | refine below_set ?_ GE233.out) | exact HB.out))) : w.heap.size ≤ gb247)); have n6_ := A0_ ((by rw [hg]; exact (below_size (by repeat (first | (with_reducible first | exact HB.out | apply ba_ | apply bn_ | apply bd_ | refine below_set ?_ GE233.out) | exact HB.out))) : w.heap.size ≤ gb247)); have n7_ := A0_ ((by rw [hg]; exact Nat.ne_of_lt (blk_lt (g := gb233) (o := .cells #[.int .i64 a0_0, .int .i64 a0_1, .slice A0_2 l0_2.length c0_2] 24 (0, 0)) (by (with_reducible repeat (first | apply gn_ | apply gd_ | apply ga_)); exact BK233.out)) : gb233 ≠ gb247)); have n8_ := A0_ ((by rw [hg]; exact Nat.ne_of_gt (blk_lt (g := gb233) (o := .cells #[.int .i64 a0_0, .int .i64 a0_1, .slice A0_2 l0_2.length c0_2] 24 (0, 0)) (by (with_reducible repeat (first | apply gn_ | apply gd_ | apply ga_)); exact BK233.out)) : gb247 ≠ gb233)); clear HO239; clear HO246; clear BK233; clear HB; have HO239 := n0_; have HO246 := n1_; have BK233 := n2_; have HB := n3_; have BK247 := n4_; have GW247 := n5_; have GE247 := n6_; have NB233_247 := n7_; have NB247_233 := n8_; clear n0_ n1_ n2_ n3_ n4_ n5_ n6_ n7_ n8_; clear hb hbox hg; have hnb22 := NB247_233.out; have hnc22 := NB233_247.out; have hcz23_0 : w21.cell? ⟨gb247, 0, none⟩ = some (.int .i64 0) := (blk_cell BK247.out 0).trans rfl; have hcz23_1 : w21.cell? ⟨gb247, 1, none⟩ = some (.int .i64 0) := (blk_cell BK247.out 1).trans rfl; have hcz23_2 : w21.cell? ⟨gb247, 2, none⟩ = some (.slice none 0 0) := (blk_cell BK247.out 2).trans rfl; have hfz23_0 := blk_frozen BK247.out 0; have hfz23_1 := blk_frozen BK247.out 1; have hfz23_2 := blk_frozen BK247.out 2; obtain ⟨Ao24, co24, eo24⟩ := Kd.S_slice HO246.out; subst eo24) | ((with_reducible refine gate_callee (f := 16) rfl ?_); refine goesL_ (some 24) rfl rfl Tryd.func16 (by kernel_rfl) rfl #[.agg #[.int .i64 t242, .int .i64 t243, .slice Ao24 t244.length co24]] rfl (by (try simp only [List.map_toArray, List.map_cons, List.map_nil]); first | done | rfl | (simp only [List.length_drop, List.length_take]; rfl)) ?_; (with_reducible refine (impl_CountCovers.calls k t242 t243 _ _ t244 t248 t249 _ ?side1 ?side2 A10.out ?tab).mono ?_); (case tab => exact fun j hj => pw_cell_below (by repeat (first | (with_reducible first | exact HB.out | apply ba_ | apply bn_ | apply bd_ | refine below_set ?_ GE233.out | refine below_set ?_ GE247.out) | exact HB.out)) (HT.out j hj)); (case side1 => refine (Kd.S_reads' (e := 32) (base := w.heap.size) (ok := fun k_ => (True ∧ some k_ ≠ (.slice Ao17 t237.length co17 : Value).ownBlock)) (n := t244.length) (c := co24) ?_).2.2; exact (by (with_reducible repeat (first | apply Kd.S_alloc | apply Kd.S_drewN | apply Kd.S_drew)); exact (Kd.S_mono (Kd.S_far (p := ⟨gb247, 2, none⟩) (Kd.S_far (p := ⟨gb247, 1, none⟩) (Kd.S_far (p := ⟨gb247, 0, none⟩) (Kd.S_types HO246.out BK247.out (by decide)) (fun _ hk => hk.2) (.int .i64 t242)) (fun _ hk => hk.2) (.int .i64 t243)) (fun _ hk => hk.2) (.slice Ao24 t244.length co24)) (fun _ h_ => h_.1)))); (case side2 => exact (Kd.S_reads' HO246.out).2.1); rintro e w25 ⟨rfl, hb⟩; refine ⟨_, rfl, ?_⟩; have n0_ := A0_ (Kd.S_below (by (with_reducible repeat (first | apply Kd.S_alloc | apply Kd.S_drewN | apply Kd.S_drew)); exact (Kd.S_mono (Kd.S_far (p := ⟨gb247, 2, none⟩) (Kd.S_far (p := ⟨gb247, 1, none⟩) (Kd.S_far (p := ⟨gb247, 0, none⟩) (Kd.S_types HO239.out BK247.out (by decide)) (fun _ hk => hk.2) (.int .i64 t242)) (fun _ hk => hk.2) (.int .i64 t243)) (fun _ hk => hk.2) (.slice Ao24 t244.length co24)) (fun _ h_ => h_.1))) hb); have n1_ := A0_ (Kd.S_below (by (with_reducible repeat (first | apply Kd.S_alloc | apply Kd.S_drewN | apply Kd.S_drew)); exact (Kd.S_mono (Kd.S_far (p := ⟨gb247, 2, none⟩) (Kd.S_far (p := ⟨gb247, 1, none⟩) (Kd.S_far (p := ⟨gb247, 0, none⟩) (Kd.S_types HO246.out BK247.out (by decide)) (fun _ hk => hk.2) (.int .i64 t242)) (fun _ hk => hk.2) (.int .i64 t243)) (fun _ hk => hk.2) (.slice Ao24 t244.length co24)) (fun _ h_ => h_.1))) hb); have n2_ := A0_ (blk_below (g := gb233) (o := .cells #[.int .i64 a0_0, .int .i64 a0_1, .slice A0_2 l0_2.length c0_2] 24 (0, 0)) (by (with_reducible repeat (first | apply gn_ | apply gd_ | apply ga_)); refine blk_far ?_ NB233_247.out _; (with_reducible repeat (first | apply gn_ | apply gd_ | apply ga_)); refine blk_far ?_ NB233_247.out _; (with_reducible repeat (first | apply gn_ | apply gd_ | apply ga_)); refine blk_far ?_ NB233_247.out _; (with_reducible repeat (first | apply gn_ | apply gd_ | apply ga_)); exact BK233.out) hb); have n3_ := A0_ (blk_below (g := gb247) (o := .cells #[.int .i64 t242, .int .i64 t243, .slice Ao24 t244.length co24] 28 (0, 0)) (by (with_reducible repeat (first | apply gn_ | apply gd_ | apply ga_)); refine blk_put (cs := #[.int .i64 t242, .int .i64 t243, .slice none 0 0]) ?_ 2 _ rfl; (with_reducible repeat (first | apply gn_ | apply gd_ | apply ga_)); refine blk_put (cs := #[.int .i64 t242, .int .i64 0, .slice none 0 0]) ?_ 1 _ rfl; (with_reducible repeat (first | apply gn_ | apply gd_ | apply ga_)); refine blk_put (cs := #[.int .i64 0, .int .i64 0, .slice none 0 0]) ?_ 0 _ rfl; (with_reducible repeat (first | apply gn_ | apply gd_ | apply ga_)); exact BK247.out) hb); have n4_ := A0_ (below_step (by repeat (first | (with_reducible first | exact HB.out | apply ba_ | apply bn_ | apply bd_ | refine below_set ?_ GE233.out | refine below_set ?_ GE247.out) | exact HB.out)) hb); clear HO239; clear HO246; clear BK233; clear BK247; clear HB; have HO239 := n0_; have HO246 := n1_; have BK233 := n2_; have BK247 := n3_; have HB := n4_; clear n0_ n1_ n2_ n3_ n4_; (try clear hb); (try clear hb2); (try clear hk); (try clear hi)))
  ((try simp only [Act.put, List.setIfInBounds_toArray, List.set_cons_zero, List.set_cons_succ]))
  go_cut [34] (fun v34 wc => ∃ (kq : Nat) (x34_10 : Bool), v34 = .bool x34_10 ∧ Aside0 (laws_FnExactCountCovers.j0 kq x34_10 a0_0 a0_1 l0_2 t242 t243 t244 = some r) ∧ Aside0 (kq ≤ k) ∧ Aside0 (Kd.S (Kd.slice 2 (Kd.int .i64)) 32 wc w.heap.size (fun _ => True) (.slice Ao24 t244.length co24) t244) ∧ Aside0 (wc.heap[gb233]? = some (.cells #[.int .i64 a0_0, .int .i64 a0_1, (.slice A0_2 l0_2.length c0_2)] 24 (0, 0))) ∧ Aside0 (wc.heap[gb247]? = some (.cells #[.int .i64 t242, .int .i64 t243, (.slice Ao24 t244.length co24)] 28 (0, 0))) ∧ Aside0 (Below w.heap.size w wc))
  case first =>
   (have H := HC11.out); clear HC11; (by_cases c26 : t248 = t240)
   ·(rw [if_pos c26] at H); (have c26b0 : (t248 == t240) = true := beq_iff_eq.mpr c26); (have c26b1 : (t248 != t240) = false := bne_eq_false_iff_eq.mpr c26); clear c26; ((first | rw [c26b0] | (simp only [i64_w, i32_w]; rw [c26b0]) | skip)); (have H' := A0_ H); clear H; go_wp2; (go_meet)
    case rel => exact ⟨_, ((t249 != t241)), (by first | rfl | (simp; done) | (simp [*]; done)), H', ⟨by first | omega | exact Nat.le_refl _⟩, ⟨by (with_reducible repeat (first | apply Kd.S_alloc | apply Kd.S_drewN | apply Kd.S_drew)); exact Kd.S_mono HO246.out (fun _ hk => trivial)⟩, ⟨by (with_reducible repeat (first | apply gn_ | apply gd_ | apply ga_)); exact BK233.out⟩, ⟨by (with_reducible repeat (first | apply gn_ | apply gd_ | apply ga_)); exact BK247.out⟩, ⟨by repeat (first | (with_reducible first | exact HB.out | apply ba_ | apply bn_ | apply bd_ | refine below_set ?_ GE233.out | refine below_set ?_ GE247.out) | exact HB.out)⟩⟩
   ·(rw [if_neg c26] at H); (have c26b0 : (t248 == t240) = false := beq_eq_false_iff_ne.mpr c26); (have c26b1 : (t248 != t240) = true := bne_iff_ne.mpr c26); ((first | rw [c26b0] | (simp only [i64_w, i32_w]; rw [c26b0]) | skip)); (have H' := A0_ H); clear H; go_wp2; (go_meet)
    case rel => exact ⟨_, (true), (by first | rfl | (simp; done) | (simp [*]; done)), H', ⟨by first | omega | exact Nat.le_refl _⟩, ⟨by (with_reducible repeat (first | apply Kd.S_alloc | apply Kd.S_drewN | apply Kd.S_drew)); exact Kd.S_mono HO246.out (fun _ hk => trivial)⟩, ⟨by (with_reducible repeat (first | apply gn_ | apply gd_ | apply ga_)); exact BK233.out⟩, ⟨by (with_reducible repeat (first | apply gn_ | apply gd_ | apply ga_)); exact BK247.out⟩, ⟨by repeat (first | (with_reducible first | exact HB.out | apply ba_ | apply bn_ | apply bd_ | refine below_set ?_ GE233.out | refine below_set ?_ GE247.out) | exact HB.out)⟩⟩
  case rest =>
   clear HC11; (try clear c1); (try clear c2); (try clear p2); (try clear c3); (try clear c3b0); (try clear c4); (try clear c10); (try clear c12); (try clear c15); (try clear c16); (try clear c22); (try clear c26); (try clear c26b0); (try clear c26b1); (try clear hcz13_0 hcz13_1 hcz13_2); (try clear hcz15_0 hcz15_1 hcz15_2); (try clear hcz19_0 hcz19_1 hcz19_2); (try clear hcz23_0 hcz23_1 hcz23_2); (try clear hcz5_0 hcz5_1 hcz5_2); (try clear hfz13_0 hfz13_1 hfz13_2); (try clear hfz15_0 hfz15_1 hfz15_2); (try clear hfz19_0 hfz19_1 hfz19_2); (try clear hfz23_0 hfz23_1 hfz23_2); (try clear hfz5_0 hfz5_1 hfz5_2); (obtain ⟨kq, x34_10, rfl, HA, HJ10, HO_248002, BK233, BK247, HB⟩ := hcut)
   cases kq with
   | zero => exact absurd HA.out (by simp [laws_FnExactCountCovers.j0])
   | succ kj10 =>
    (have H := HA.out); clear HA; (simp only [laws_FnExactCountCovers.j0] at H); (by_cases c27 : x34_10 = true)
    ·subst c27; (have H1 := H); (rw [if_pos rfl] at H1); clear H; (have H := H1); clear H1; (obtain rfl := Option.some.inj H); go_wp2; go_ret; (exact ⟨by first | rfl | (simp [errW_none, errW_some] <;> rfl) | (simp [*, errW_none, errW_some] <;> rfl), by repeat (first | (with_reducible first | exact HB.out | apply ba_ | apply bn_ | apply bd_ | refine below_set ?_ GE233.out | refine below_set ?_ GE247.out) | exact HB.out)⟩)
    ·(replace c27 := Bool.eq_false_iff.mpr c27); subst c27
     have H1 : ((laws_toCover.f kj10 a0_0 a0_1 l0_2).bind fun bt250 => ((laws_eqCover.f kj10 t242 t243 t244 bt250.1 bt250.2.1 bt250.2.2).bind fun t255 => (if t255 = true then (some true) else (some false)))) = some r := by rw [if_neg (show ¬ (false = true) by decide)] at H; exact H
     clear H; (have H := H1); clear H1; (replace H := Option.bind_eq_some_iff.mp H); (obtain ⟨⟨t250, t251, t252⟩, A280, H⟩ := H); (try dsimp only at H); (have A28 := A0_ A280); clear A280; (replace H := Option.bind_eq_some_iff.mp H); (obtain ⟨t255, A290, H⟩ := H); (try dsimp only at H); (have A29 := A0_ A290); clear A290; (by_cases c30 : t255 = true)
     ·subst c30; (have H1 := H); (rw [if_pos rfl] at H1); clear H; (have H := H1); clear H1; (obtain rfl := Option.some.inj H); (try go_wp2); (have n0_ := A0_ (Kd.S_drew HO_248002.out)); (have n1_ := A0_ (blk_drew BK233.out)); (have n2_ := A0_ (blk_drew BK247.out)); (have n3_ := A0_ (below_drew1 HB.out)); clear HO_248002; clear BK233; clear BK247; clear HB; (have HO_248002 := n0_); (have BK233 := n1_); (have BK247 := n2_); (have HB := n3_); clear n0_ n1_ n2_ n3_
      refine start_ (n := 5) (S := fun w' => w'.cell? ⟨gb247, 0, none⟩ = some (.int .i64 t242) ∧ w'.cell? ⟨gb247, 1, none⟩ = some (.int .i64 t243) ∧ w'.cell? ⟨gb247, 2, none⟩ = some (.slice Ao24 t244.length co24) ∧ w'.cell? ⟨gb233, 0, none⟩ = some (.int .i64 a0_0) ∧ w'.cell? ⟨gb233, 1, none⟩ = some (.int .i64 a0_1) ∧ w'.cell? ⟨gb233, 2, none⟩ = some (.slice A0_2 l0_2.length c0_2)) (ds := []) #[ff,ff,ff,ff,ff] (by kernel_rfl) rfl rfl ⟨(blk_cell BK247.out 0).trans rfl, (blk_cell BK247.out 1).trans rfl, (blk_cell BK247.out 2).trans rfl, (blk_cell BK233.out 0).trans rfl, (blk_cell BK233.out 1).trans rfl, (blk_cell BK233.out 2).trans rfl⟩ (fun hHeld => ?_)
      (generalize wc.drew = w31 at HO_248002 BK233 BK247 HB hHeld ⊢)
      refine take_ (i := 0) (N := some 35) (v := ?_) (a' := ?_) #[tt,ff,ff,ff,ff] rfl rfl (by kernel_rfl) (fun _ _ _ h => h) (Or.inl ⟨by rfl, ?_⟩) hHeld ?_ ?_
      rotate_left
      ·(rintro w' ⟨s0, s1, s2, s3, s4, s5⟩); go_simp; with_reducible rfl
      rotate_left
      ·(simp only [Act.put, sia_, sz_, ss_, i64_w, i32_w]); rfl
      refine take_ (i := 1) (N := some 36) (v := ?_) (a' := ?_) #[tt,tt,ff,ff,ff] rfl rfl (by kernel_rfl) (fun _ _ _ h => h) (Or.inl ⟨by rfl, ?_⟩) hHeld ?_ ?_
      rotate_left
      ·(rintro w' ⟨s0, s1, s2, s3, s4, s5⟩); go_simp; with_reducible rfl
      rotate_left
      ·(simp only [Act.put, sia_, sz_, ss_, i64_w, i32_w]); rfl
      refine one_ (i := 2) (N := some 37) #[tt,tt,tt,ff,ff] rfl rfl (by kernel_rfl) (by decide) (fun K hK => ?_)
      (refine goes_ Tryd.func12 (by kernel_rfl) rfl #[.agg #[.int .i64 a0_0, .int .i64 a0_1, .slice A0_2 l0_2.length c0_2]] (by rfl) rfl rfl (by (try simp only [List.map_toArray, List.map_cons, List.map_nil]); first | done | rfl | (simp only [List.length_drop, List.length_take]; rfl)) ?_); (with_reducible refine (laws_toCover.calls kj10 a0_0 a0_1 _ _ l0_2 t250 t251 t252 _ ?side1 ?side2 A28.out).mono ?_); ((case side1 => repeat (first | exact (Kd.C_below HR0_2.out HB.out) | (with_reducible refine Kd.C_alloc ?_ _) | (with_reducible refine Kd.C_drewN ?_ _) | (with_reducible refine Kd.C_drew ?_)))); ((case side2 => exact HC0_2.out)); (rintro e w32 ⟨v253, rfl, ho0, hb⟩); (refine ⟨_, rfl, ?_⟩); (have n0_ := A0_ (Kd.S_elder' (by (with_reducible repeat (first | apply Kd.S_alloc | apply Kd.S_drewN | apply Kd.S_drew)); exact HO_248002.out) (Kd.S_base ho0) hb)); (have n1_ := A0_ (Kd.S_lower (Kd.S_new' ho0 (Kd.S_lt (by (with_reducible repeat (first | apply Kd.S_alloc | apply Kd.S_drewN | apply Kd.S_drew)); exact HO_248002.out))) (below_size (by repeat (first | (with_reducible first | exact HB.out | apply ba_ | apply bn_ | apply bd_ | refine below_set ?_ GE233.out | refine below_set ?_ GE247.out) | exact HB.out))))); (have n2_ := A0_ (blk_below (g := gb233) (o := .cells #[.int .i64 a0_0, .int .i64 a0_1, .slice A0_2 l0_2.length c0_2] 24 (0, 0)) (by (with_reducible repeat (first | apply gn_ | apply gd_ | apply ga_)); exact BK233.out) hb)); (have n3_ := A0_ (blk_below (g := gb247) (o := .cells #[.int .i64 t242, .int .i64 t243, .slice Ao24 t244.length co24] 28 (0, 0)) (by (with_reducible repeat (first | apply gn_ | apply gd_ | apply ga_)); exact BK247.out) hb)); (have n4_ := A0_ (below_step (by repeat (first | (with_reducible first | exact HB.out | apply ba_ | apply bn_ | apply bd_ | refine below_set ?_ GE233.out | refine below_set ?_ GE247.out) | exact HB.out)) hb)); clear HO_248002; clear BK233; clear BK247; clear HB; (have HO_248002 := n0_); (have HO254 := n1_); (have BK233 := n2_); (have BK247 := n3_); (have HB := n4_); clear n0_ n1_ n2_ n3_ n4_; ((try clear hb)); ((try clear hb2)); ((try clear hk)); ((try clear hi)); ((try clear ho0)); (obtain ⟨Ao33, co33, eo33⟩ := Kd.S_slice HO254.out); ((first | subst eo33 | (injection eo33 with f1_ f2_ f3_; have f4_ := f1_.symm; have f5_ := f3_.symm; clear f1_ f2_ f3_; subst f4_; subst f5_)))
      refine hK.out _ _ ⟨(blk_cell BK247.out 0).trans rfl, (blk_cell BK247.out 1).trans rfl, (blk_cell BK247.out 2).trans rfl, (blk_cell BK233.out 0).trans rfl, (blk_cell BK233.out 1).trans rfl, (blk_cell BK233.out 2).trans rfl⟩ (fun hHeld => ?_)
      clear hK K; (refine norm_ (a' := ?_) ?_ ?_); rotate_left
      ·(show Act.put _ (some 37) _ = _); (simp only [Act.put, sia_, sz_, ss_, i64_w, i32_w]); rfl
      refine one_ (i := 3) (N := some 38) #[tt,tt,tt,tt,ff] rfl rfl (by kernel_rfl) (by decide) (fun K hK => ?_)
      (refine goes_ Tryd.func14 (by kernel_rfl) rfl #[.agg #[.int .i64 t242, .int .i64 t243, .slice Ao24 t244.length co24], .agg #[.int .i64 t250, .int .i64 t251, .slice Ao33 t252.length co33]] (by rfl) rfl rfl (by (try simp only [List.map_toArray, List.map_cons, List.map_nil]); first | done | rfl | (simp only [List.length_drop, List.length_take]; rfl)) ?_); (with_reducible refine (laws_eqCover.calls kj10 t242 t243 _ _ t244 t250 t251 _ _ t252 true _ ?side1 ?side2 ?side3 ?side4 A29.out).mono ?_); ((case side1 => repeat (first | exact (Kd.S_reads' HO_248002.out).2.2 | (with_reducible refine Kd.C_alloc ?_ _) | (with_reducible refine Kd.C_drewN ?_ _) | (with_reducible refine Kd.C_drew ?_)))); ((case side2 => exact (Kd.S_reads' HO_248002.out).2.1)); ((case side3 => repeat (first | exact (Kd.S_reads' HO254.out).2.2 | (with_reducible refine Kd.C_alloc ?_ _) | (with_reducible refine Kd.C_drewN ?_ _) | (with_reducible refine Kd.C_drew ?_)))); ((case side4 => exact (Kd.S_reads' HO254.out).2.1)); (rintro e w34 ⟨rfl, hb⟩); (refine ⟨_, rfl, ?_⟩); (have n0_ := A0_ (Kd.S_below (by (with_reducible repeat (first | apply Kd.S_alloc | apply Kd.S_drewN | apply Kd.S_drew)); exact HO_248002.out) hb)); (have n1_ := A0_ (Kd.S_below (by (with_reducible repeat (first | apply Kd.S_alloc | apply Kd.S_drewN | apply Kd.S_drew)); exact HO254.out) hb)); (have n2_ := A0_ (blk_below (g := gb233) (o := .cells #[.int .i64 a0_0, .int .i64 a0_1, .slice A0_2 l0_2.length c0_2] 24 (0, 0)) (by (with_reducible repeat (first | apply gn_ | apply gd_ | apply ga_)); exact BK233.out) hb)); (have n3_ := A0_ (blk_below (g := gb247) (o := .cells #[.int .i64 t242, .int .i64 t243, .slice Ao24 t244.length co24] 28 (0, 0)) (by (with_reducible repeat (first | apply gn_ | apply gd_ | apply ga_)); exact BK247.out) hb)); (have n4_ := A0_ (below_step (by repeat (first | (with_reducible first | exact HB.out | apply ba_ | apply bn_ | apply bd_ | refine below_set ?_ GE233.out | refine below_set ?_ GE247.out) | exact HB.out)) hb)); clear HO_248002; clear HO254; clear BK233; clear BK247; clear HB; (have HO_248002 := n0_); (have HO254 := n1_); (have BK233 := n2_); (have BK247 := n3_); (have HB := n4_); clear n0_ n1_ n2_ n3_ n4_; ((try clear hb)); ((try clear hb2)); ((try clear hk)); ((try clear hi))
      refine hK.out _ _ ⟨(blk_cell BK247.out 0).trans rfl, (blk_cell BK247.out 1).trans rfl, (blk_cell BK247.out 2).trans rfl, (blk_cell BK233.out 0).trans rfl, (blk_cell BK233.out 1).trans rfl, (blk_cell BK233.out 2).trans rfl⟩ (fun hHeld => ?_)
      clear hK K; (refine norm_ (a' := ?_) ?_ ?_); rotate_left
      ·(show Act.put _ (some 38) _ = _); (simp only [Act.put, sia_, sz_, ss_, i64_w, i32_w]); rfl
      refine pure_ (i := 4) (N := some 39) (v := ?_) (a' := ?_) #[tt,tt,tt,tt,tt] rfl rfl (by kernel_rfl) (fun _ _ _ h => h) (Or.inl ⟨by rfl, ?_⟩) ?_ ?_
      rotate_left
      ·intro w'; go_simp; with_reducible rfl
      rotate_left
      ·(simp only [Act.put, sia_, sz_, ss_, i64_w, i32_w]); rfl
      (refine done_ (by kernel_rfl) ?_); (try go_wp2); go_ret; (exact ⟨by first | rfl | (simp [errW_none, errW_some] <;> rfl) | (simp [*, errW_none, errW_some] <;> rfl), by repeat (first | (with_reducible first | exact HB.out | apply ba_ | apply bn_ | apply bd_ | refine below_set ?_ GE233.out | refine below_set ?_ GE247.out) | exact HB.out)⟩)
     ·(replace c30 := Bool.eq_false_iff.mpr c30); subst c30; (have H1 : (some false) = some r := by rw [if_neg (show ¬ (false = true) by decide)] at H; exact H); clear H; (have H := H1); clear H1; (obtain rfl := Option.some.inj H); (try go_wp2); (have n0_ := A0_ (Kd.S_drew HO_248002.out)); (have n1_ := A0_ (blk_drew BK233.out)); (have n2_ := A0_ (blk_drew BK247.out)); (have n3_ := A0_ (below_drew1 HB.out)); clear HO_248002; clear BK233; clear BK247; clear HB; (have HO_248002 := n0_); (have BK233 := n1_); (have BK247 := n2_); (have HB := n3_); clear n0_ n1_ n2_ n3_
      refine start_ (n := 5) (S := fun w' => w'.cell? ⟨gb247, 0, none⟩ = some (.int .i64 t242) ∧ w'.cell? ⟨gb247, 1, none⟩ = some (.int .i64 t243) ∧ w'.cell? ⟨gb247, 2, none⟩ = some (.slice Ao24 t244.length co24) ∧ w'.cell? ⟨gb233, 0, none⟩ = some (.int .i64 a0_0) ∧ w'.cell? ⟨gb233, 1, none⟩ = some (.int .i64 a0_1) ∧ w'.cell? ⟨gb233, 2, none⟩ = some (.slice A0_2 l0_2.length c0_2)) (ds := []) #[ff,ff,ff,ff,ff] (by kernel_rfl) rfl rfl ⟨(blk_cell BK247.out 0).trans rfl, (blk_cell BK247.out 1).trans rfl, (blk_cell BK247.out 2).trans rfl, (blk_cell BK233.out 0).trans rfl, (blk_cell BK233.out 1).trans rfl, (blk_cell BK233.out 2).trans rfl⟩ (fun hHeld => ?_)
      (generalize wc.drew = w35 at HO_248002 BK233 BK247 HB hHeld ⊢)
      refine take_ (i := 0) (N := some 35) (v := ?_) (a' := ?_) #[tt,ff,ff,ff,ff] rfl rfl (by kernel_rfl) (fun _ _ _ h => h) (Or.inl ⟨by rfl, ?_⟩) hHeld ?_ ?_
      rotate_left
      ·(rintro w' ⟨s0, s1, s2, s3, s4, s5⟩); go_simp; with_reducible rfl
      rotate_left
      ·(simp only [Act.put, sia_, sz_, ss_, i64_w, i32_w]); rfl
      refine take_ (i := 1) (N := some 36) (v := ?_) (a' := ?_) #[tt,tt,ff,ff,ff] rfl rfl (by kernel_rfl) (fun _ _ _ h => h) (Or.inl ⟨by rfl, ?_⟩) hHeld ?_ ?_
      rotate_left
      ·(rintro w' ⟨s0, s1, s2, s3, s4, s5⟩); go_simp; with_reducible rfl
      rotate_left
      ·(simp only [Act.put, sia_, sz_, ss_, i64_w, i32_w]); rfl
      refine one_ (i := 2) (N := some 37) #[tt,tt,tt,ff,ff] rfl rfl (by kernel_rfl) (by decide) (fun K hK => ?_)
      (refine goes_ Tryd.func12 (by kernel_rfl) rfl #[.agg #[.int .i64 a0_0, .int .i64 a0_1, .slice A0_2 l0_2.length c0_2]] (by rfl) rfl rfl (by (try simp only [List.map_toArray, List.map_cons, List.map_nil]); first | done | rfl | (simp only [List.length_drop, List.length_take]; rfl)) ?_); (with_reducible refine (laws_toCover.calls kj10 a0_0 a0_1 _ _ l0_2 t250 t251 t252 _ ?side1 ?side2 A28.out).mono ?_); ((case side1 => repeat (first | exact (Kd.C_below HR0_2.out HB.out) | (with_reducible refine Kd.C_alloc ?_ _) | (with_reducible refine Kd.C_drewN ?_ _) | (with_reducible refine Kd.C_drew ?_)))); ((case side2 => exact HC0_2.out)); (rintro e w36 ⟨v253, rfl, ho0, hb⟩); (refine ⟨_, rfl, ?_⟩); (have n0_ := A0_ (Kd.S_elder' (by (with_reducible repeat (first | apply Kd.S_alloc | apply Kd.S_drewN | apply Kd.S_drew)); exact HO_248002.out) (Kd.S_base ho0) hb)); (have n1_ := A0_ (Kd.S_lower (Kd.S_new' ho0 (Kd.S_lt (by (with_reducible repeat (first | apply Kd.S_alloc | apply Kd.S_drewN | apply Kd.S_drew)); exact HO_248002.out))) (below_size (by repeat (first | (with_reducible first | exact HB.out | apply ba_ | apply bn_ | apply bd_ | refine below_set ?_ GE233.out | refine below_set ?_ GE247.out) | exact HB.out))))); (have n2_ := A0_ (blk_below (g := gb233) (o := .cells #[.int .i64 a0_0, .int .i64 a0_1, .slice A0_2 l0_2.length c0_2] 24 (0, 0)) (by (with_reducible repeat (first | apply gn_ | apply gd_ | apply ga_)); exact BK233.out) hb)); (have n3_ := A0_ (blk_below (g := gb247) (o := .cells #[.int .i64 t242, .int .i64 t243, .slice Ao24 t244.length co24] 28 (0, 0)) (by (with_reducible repeat (first | apply gn_ | apply gd_ | apply ga_)); exact BK247.out) hb)); (have n4_ := A0_ (below_step (by repeat (first | (with_reducible first | exact HB.out | apply ba_ | apply bn_ | apply bd_ | refine below_set ?_ GE233.out | refine below_set ?_ GE247.out) | exact HB.out)) hb)); clear HO_248002; clear BK233; clear BK247; clear HB; (have HO_248002 := n0_); (have HO254 := n1_); (have BK233 := n2_); (have BK247 := n3_); (have HB := n4_); clear n0_ n1_ n2_ n3_ n4_; ((try clear hb)); ((try clear hb2)); ((try clear hk)); ((try clear hi)); ((try clear ho0)); (obtain ⟨Ao37, co37, eo37⟩ := Kd.S_slice HO254.out); ((first | subst eo37 | (injection eo37 with f1_ f2_ f3_; have f4_ := f1_.symm; have f5_ := f3_.symm; clear f1_ f2_ f3_; subst f4_; subst f5_)))
      refine hK.out _ _ ⟨(blk_cell BK247.out 0).trans rfl, (blk_cell BK247.out 1).trans rfl, (blk_cell BK247.out 2).trans rfl, (blk_cell BK233.out 0).trans rfl, (blk_cell BK233.out 1).trans rfl, (blk_cell BK233.out 2).trans rfl⟩ (fun hHeld => ?_)
      clear hK K; (refine norm_ (a' := ?_) ?_ ?_); rotate_left
      ·(show Act.put _ (some 37) _ = _); (simp only [Act.put, sia_, sz_, ss_, i64_w, i32_w]); rfl
      refine one_ (i := 3) (N := some 38) #[tt,tt,tt,tt,ff] rfl rfl (by kernel_rfl) (by decide) (fun K hK => ?_)
      (refine goes_ Tryd.func14 (by kernel_rfl) rfl #[.agg #[.int .i64 t242, .int .i64 t243, .slice Ao24 t244.length co24], .agg #[.int .i64 t250, .int .i64 t251, .slice Ao37 t252.length co37]] (by rfl) rfl rfl (by (try simp only [List.map_toArray, List.map_cons, List.map_nil]); first | done | rfl | (simp only [List.length_drop, List.length_take]; rfl)) ?_); (with_reducible refine (laws_eqCover.calls kj10 t242 t243 _ _ t244 t250 t251 _ _ t252 false _ ?side1 ?side2 ?side3 ?side4 A29.out).mono ?_); ((case side1 => repeat (first | exact (Kd.S_reads' HO_248002.out).2.2 | (with_reducible refine Kd.C_alloc ?_ _) | (with_reducible refine Kd.C_drewN ?_ _) | (with_reducible refine Kd.C_drew ?_)))); ((case side2 => exact (Kd.S_reads' HO_248002.out).2.1)); ((case side3 => repeat (first | exact (Kd.S_reads' HO254.out).2.2 | (with_reducible refine Kd.C_alloc ?_ _) | (with_reducible refine Kd.C_drewN ?_ _) | (with_reducible refine Kd.C_drew ?_)))); ((case side4 => exact (Kd.S_reads' HO254.out).2.1)); (rintro e w38 ⟨rfl, hb⟩); (refine ⟨_, rfl, ?_⟩); (have n0_ := A0_ (Kd.S_below (by (with_reducible repeat (first | apply Kd.S_alloc | apply Kd.S_drewN | apply Kd.S_drew)); exact HO_248002.out) hb)); (have n1_ := A0_ (Kd.S_below (by (with_reducible repeat (first | apply Kd.S_alloc | apply Kd.S_drewN | apply Kd.S_drew)); exact HO254.out) hb)); (have n2_ := A0_ (blk_below (g := gb233) (o := .cells #[.int .i64 a0_0, .int .i64 a0_1, .slice A0_2 l0_2.length c0_2] 24 (0, 0)) (by (with_reducible repeat (first | apply gn_ | apply gd_ | apply ga_)); exact BK233.out) hb)); (have n3_ := A0_ (blk_below (g := gb247) (o := .cells #[.int .i64 t242, .int .i64 t243, .slice Ao24 t244.length co24] 28 (0, 0)) (by (with_reducible repeat (first | apply gn_ | apply gd_ | apply ga_)); exact BK247.out) hb)); (have n4_ := A0_ (below_step (by repeat (first | (with_reducible first | exact HB.out | apply ba_ | apply bn_ | apply bd_ | refine below_set ?_ GE233.out | refine below_set ?_ GE247.out) | exact HB.out)) hb)); clear HO_248002; clear HO254; clear BK233; clear BK247; clear HB; (have HO_248002 := n0_); (have HO254 := n1_); (have BK233 := n2_); (have BK247 := n3_); (have HB := n4_); clear n0_ n1_ n2_ n3_ n4_; ((try clear hb)); ((try clear hb2)); ((try clear hk)); ((try clear hi))
      refine hK.out _ _ ⟨(blk_cell BK247.out 0).trans rfl, (blk_cell BK247.out 1).trans rfl, (blk_cell BK247.out 2).trans rfl, (blk_cell BK233.out 0).trans rfl, (blk_cell BK233.out 1).trans rfl, (blk_cell BK233.out 2).trans rfl⟩ (fun hHeld => ?_)
      clear hK K; (refine norm_ (a' := ?_) ?_ ?_); rotate_left
      ·(show Act.put _ (some 38) _ = _); (simp only [Act.put, sia_, sz_, ss_, i64_w, i32_w]); rfl
      refine pure_ (i := 4) (N := some 39) (v := ?_) (a' := ?_) #[tt,tt,tt,tt,tt] rfl rfl (by kernel_rfl) (fun _ _ _ h => h) (Or.inl ⟨by rfl, ?_⟩) ?_ ?_
      rotate_left
      ·intro w'; go_simp; with_reducible rfl
      rotate_left
      ·(simp only [Act.put, sia_, sz_, ss_, i64_w, i32_w]); rfl
      (refine done_ (by kernel_rfl) ?_); (try go_wp2); go_ret; (exact ⟨by first | rfl | (simp [errW_none, errW_some] <;> rfl) | (simp [*, errW_none, errW_some] <;> rfl), by repeat (first | (with_reducible first | exact HB.out | apply ba_ | apply bn_ | apply bd_ | refine below_set ?_ GE233.out | refine below_set ?_ GE247.out) | exact HB.out)⟩)
end Go.Proofs.YtoglcgnbkibpgaaDoor.A

/- The kind of the laws' instances. -/
namespace Go.Proofs.YtoglcgnbkibpgaaDoor.A
open Go.RowKit Go.Proofs.YtoglcgnbkibpgaaDoorW.PrintWords Go.Proofs.YtoglcgnbkibpgaaDoorW.PrintLast Go.Proofs.YtoglcgnbkibpgaaDoorW.PrintMore
structure S24 where
  f0 : Int
  f1 : Int
  f2 : List (List Int)
def k24 : Kd S24 := Kd.iso (Kd.pair (Kd.int .i64) (Kd.pair (Kd.int .i64) (Kd.slice 32 (Kd.slice 2 (Kd.int .i64))))) (fun x : S24 => (x.f0, x.f1, x.f2))
theorem k24_open {w : World} {x : S24} {cs : List Value} (h : k24.K w x cs) : ∃ A c, cs = [.int .i64 x.f0, .int .i64 x.f1, .slice A x.f2.length c] ∧ x.f2.length ≤ c ∧ Kd.C (Kd.slice 2 (Kd.int .i64)) w A x.f2.length x.f2 := by
  obtain ⟨_, _, rfl, rfl, ⟨_, _, rfl, rfl, ⟨A, c, rfl, hc, hr⟩⟩⟩ := h
  exact ⟨A, c, rfl, hc, hr⟩
end Go.Proofs.YtoglcgnbkibpgaaDoor.A

/- Arguments of a law opened as plain data, kind by kind: what can be read at a type is a value of its kind. -/
namespace Go.Proofs.YtoglcgnbkibpgaaDoor.Opn
open Go.RowKit Go.Proofs.YtoglcgnbkibpgaaDoorW.PrintWords
/-- What reads at type t is a value of kind d, of which ok holds. -/
def Op {α : Type} (P : Program) (t : TypeId) (d : Kd α) (ok : α → Prop) : Prop :=
  ∀ (H : Type) (enc : TypeId × Value → H) (W : World) (fuel : Nat) (cs : List Value) (x : DataW H × List MemPlace),
    DataW.trod enc P W 0 (fun _ => true) true fuel t cs = some x → ∃ a : α, d.K W a cs ∧ ok a
/-- The same of a struct's fields from one on, which begins at cell o. -/
def OpF {α : Type} (P : Program) (o : Nat) (fs : List Field) (d : Kd α) (ok : α → Prop) : Prop :=
  ∀ (H : Type) (enc : TypeId × Value → H) (W : World) (fuel : Nat) (cs : List Value) (xs : List (DataW H × List MemPlace)), cs.length = o + d.sz →
    xs.length = fs.length → (∀ (i : Nat) (f : Field), fs[i]? = some f → DataW.trod enc P W 0 (fun _ => true) true fuel f.type ((cs.drop f.offset).take (P.cellsOf f.type)) = xs[i]?) → ∃ a : α, d.K W a (cs.drop o) ∧ ok a
def okInt (k : IntKind) (n : Int) : Prop := (Lit.int k n).wf = true
def okAll {α : Type} (ok : α → Prop) (l : List α) : Prop := l.length ≤ maxLen ∧ ∀ x ∈ l, ok x
def okTwo {α β : Type} (ok : α → Prop) (ok' : β → Prop) (x : α × β) : Prop := ok x.1 ∧ ok' x.2
theorem Op.int {P : Program} {t : TypeId} {k : IntKind} (ht : P.underlying t = some (.int k)) : Op P t (Kd.int k) (okInt k) := by
  intro H enc W fuel cs x h
  obtain ⟨n, rfl, _, hw⟩ := DataW.trod_int ht h
  exact ⟨n, rfl, hw⟩
theorem Op.bool {P : Program} {t : TypeId} (ht : P.underlying t = some .bool) : Op P t Kd.bool (fun _ => True) := by
  intro H enc W fuel cs x h
  obtain ⟨b, rfl, _⟩ := DataW.trod_bool ht h
  exact ⟨b, rfl, trivial⟩
theorem Op.iso {α β : Type} {P : Program} {t : TypeId} {d : Kd α} {ok : α → Prop} (h : Op P t d ok) (f : β → α) (g : α → β) (hfg : ∀ a, f (g a) = a) : Op P t (Kd.iso d f) (fun b => ok (f b)) := by
  intro H enc W fuel cs x hx
  obtain ⟨a, ha, hok⟩ := h H enc W fuel cs x hx
  refine ⟨g a, ?_, ?_⟩
  · show d.K W (f (g a)) cs
    rw [hfg]
    exact ha
  · show ok (f (g a))
    rw [hfg]
    exact hok
theorem list_of_lt {α : Type} {p : Nat → α → Prop} : ∀ n, (∀ i, i < n → ∃ a, p i a) → ∃ l : List α, l.length = n ∧ ∀ i a, l[i]? = some a → p i a
  | 0, _ => ⟨[], rfl, fun i a h => by simp at h⟩
  | n + 1, h => by
    obtain ⟨l, hl, hp⟩ := list_of_lt n (fun i hi => h i (by omega))
    obtain ⟨a, ha⟩ := h n (by omega)
    refine ⟨l ++ [a], by simp [hl], fun i b hb => ?_⟩
    by_cases hi : i < l.length
    · rw [List.getElem?_append_left hi] at hb
      exact hp i b hb
    · have hlt : i < (l ++ [a]).length := (List.getElem?_eq_some_iff.1 hb).1
      simp at hlt
      have : i = l.length := by omega
      subst this
      have hab : a = b := by simpa using hb
      subst hab
      rw [hl]
      exact ha
theorem Op.slice {α : Type} {P : Program} {t e : TypeId} {d : Kd α} {ok : α → Prop} (ht : P.underlying t = some (.slice e)) (hc : P.cellsOf e = d.sz) (h : Op P e d ok) :
    Op P t (Kd.slice e d) (okAll ok) := by
  intro H enc W fuel cs x hx
  rcases Deep.open_slice ht hx with ⟨rfl, _⟩ | ⟨a, len, cap, m, n, D, Pl, rfl, hb, hl, hm, hmm, _, hel⟩
  · exact ⟨[], ⟨none, 0, rfl, Nat.le_refl _, rfl, by simp, fun h => absurd h (by simp)⟩, by simp [okAll]⟩
  · rw [if_pos rfl] at hmm
    subst hmm
    obtain ⟨l, hlen, hl2⟩ := list_of_lt (p := fun i (y : α) => (∃ c, c.length = d.sz ∧ d.K W y c ∧ ∀ j u, c[j]? = some u → W.cell? (a.add (i * d.sz + j)) = some u) ∧ ok y) len (fun i hi => by
      obtain ⟨cs', h1, h2⟩ := hel i (by omega)
      obtain ⟨y, hy, hok⟩ := h H enc W n cs' _ h2
      obtain ⟨_, h3, h4⟩ := World.cells?_some h1
      refine ⟨y, ⟨cs', d.K_len hy, hy, fun j u hu => ?_⟩, hok⟩
      have hj : j < P.cellsOf e := by rw [← h3]; exact (List.getElem?_eq_some_iff.1 hu).1
      have h5 := h4 j hj
      rw [← hu, ← h5, hc, Addr.add_add])
    unfold maxLen at hm
    refine ⟨l, ⟨some a, m, by rw [hlen], by omega, rfl, by omega, fun _ => ⟨a, rfl, fun j p hj => (hl2 j p hj).1⟩⟩, by unfold maxLen; omega, fun y hy => ?_⟩
    obtain ⟨i, hi, rfl⟩ := List.getElem_of_mem hy
    exact (hl2 i _ (List.getElem?_eq_getElem hi)).2
theorem OpF.one {α : Type} {P : Program} {o : Nat} {f : Field} {d : Kd α} {ok : α → Prop} (ho : f.offset = o) (hc : P.cellsOf f.type = d.sz) (h : Op P f.type d ok) : OpF P o [f] d ok := by
  intro H enc W fuel cs xs hl hn hx
  match xs, hn with
  | [y], _ =>
  have hy := hx 0 f rfl
  simp only [List.getElem?_cons_zero] at hy
  rw [ho, hc, List.take_of_length_le (by simp; omega)] at hy
  exact h H enc W fuel _ _ hy
theorem OpF.cons {α β : Type} {P : Program} {o : Nat} {f : Field} {fs : List Field} {d : Kd α} {d' : Kd β} {ok : α → Prop} {ok' : β → Prop} (ho : f.offset = o) (hc : P.cellsOf f.type = d.sz) (h : Op P f.type d ok)
    (hr : OpF P (o + d.sz) fs d' ok') : OpF P o (f :: fs) (Kd.pair d d') (okTwo ok ok') := by
  intro H enc W fuel cs xs hl hn hx
  match xs, hn with
  | y :: ys, hn =>
  have hy := hx 0 f rfl
  have hys : ∀ (i : Nat) (f : Field), fs[i]? = some f → DataW.trod enc P W 0 (fun _ => true) true fuel f.type ((cs.drop f.offset).take (P.cellsOf f.type)) = ys[i]? := fun i g hg => by simpa using hx (i + 1) g (by simpa using hg)
  simp only [List.getElem?_cons_zero] at hy
  rw [ho, hc] at hy
  obtain ⟨a, ha, hok⟩ := h H enc W fuel _ _ hy
  obtain ⟨b, hb, hok'⟩ := hr H enc W fuel cs ys (by rw [hl]; show o + (d.sz + d'.sz) = _; omega) (by simpa using hn) hys
  refine ⟨(a, b), ⟨_, _, ?_, ha, hb⟩, hok, hok'⟩
  rw [← List.drop_drop, List.take_append_drop]
theorem Op.struct {α : Type} {P : Program} {t : TypeId} {fs : Array Field} {d : Kd α} {ok : α → Prop} (ht : P.underlying t = some (.struct fs)) (hc : P.cellsOf t = d.sz) (h : OpF P 0 fs.toList d ok) : Op P t d ok := by
  intro H enc W fuel cs x hx
  obtain ⟨xs, n, _, _, hl, hn, hxs⟩ := DataW.trod_struct ht hx
  obtain ⟨a, ha, hok⟩ := h H enc W n cs xs (by omega) (by simpa using hn) (fun i f hf => hxs i f (by simpa using hf))
  exact ⟨a, by simpa using ha, hok⟩
end Go.Proofs.YtoglcgnbkibpgaaDoor.Opn

/- The plain statement of the law FnExactCountCovers, over numbers and lists alone, and how its arguments are opened. -/
namespace Go.Proofs.YtoglcgnbkibpgaaDoor.A
open Go.RowKit Go.Proofs.YtoglcgnbkibpgaaDoorW.PrintWords Go.Proofs.YtoglcgnbkibpgaaDoorW.PrintLast Go.Proofs.YtoglcgnbkibpgaaDoorW.PrintMore
def ok24 (x : S24) : Prop := (Go.Proofs.YtoglcgnbkibpgaaDoor.Opn.okTwo (Go.Proofs.YtoglcgnbkibpgaaDoor.Opn.okInt .i64) (Go.Proofs.YtoglcgnbkibpgaaDoor.Opn.okTwo (Go.Proofs.YtoglcgnbkibpgaaDoor.Opn.okInt .i64) (Go.Proofs.YtoglcgnbkibpgaaDoor.Opn.okAll (Go.Proofs.YtoglcgnbkibpgaaDoor.Opn.okAll (Go.Proofs.YtoglcgnbkibpgaaDoor.Opn.okInt .i64))))) (x.f0, x.f1, x.f2)
theorem op2 : Go.Proofs.YtoglcgnbkibpgaaDoor.Opn.Op Tryd.prog 2 (Kd.int .i64) (Go.Proofs.YtoglcgnbkibpgaaDoor.Opn.okInt .i64) := Go.Proofs.YtoglcgnbkibpgaaDoor.Opn.Op.int Tryd.underlying2
theorem op32 : Go.Proofs.YtoglcgnbkibpgaaDoor.Opn.Op Tryd.prog 32 (Kd.slice 2 (Kd.int .i64)) (Go.Proofs.YtoglcgnbkibpgaaDoor.Opn.okAll (Go.Proofs.YtoglcgnbkibpgaaDoor.Opn.okInt .i64)) := Go.Proofs.YtoglcgnbkibpgaaDoor.Opn.Op.slice Tryd.underlying32 (by kernel_rfl) op2
theorem op22 : Go.Proofs.YtoglcgnbkibpgaaDoor.Opn.Op Tryd.prog 22 (Kd.slice 32 (Kd.slice 2 (Kd.int .i64))) (Go.Proofs.YtoglcgnbkibpgaaDoor.Opn.okAll (Go.Proofs.YtoglcgnbkibpgaaDoor.Opn.okAll (Go.Proofs.YtoglcgnbkibpgaaDoor.Opn.okInt .i64))) := Go.Proofs.YtoglcgnbkibpgaaDoor.Opn.Op.slice Tryd.underlying22 (by kernel_rfl) op32
theorem op24 : Go.Proofs.YtoglcgnbkibpgaaDoor.Opn.Op Tryd.prog 24 k24 ok24 := Go.Proofs.YtoglcgnbkibpgaaDoor.Opn.Op.iso (Go.Proofs.YtoglcgnbkibpgaaDoor.Opn.Op.struct Tryd.underlying24 (by kernel_rfl) (Go.Proofs.YtoglcgnbkibpgaaDoor.Opn.OpF.cons rfl (by kernel_rfl) op2 (Go.Proofs.YtoglcgnbkibpgaaDoor.Opn.OpF.cons rfl (by kernel_rfl) op2 (Go.Proofs.YtoglcgnbkibpgaaDoor.Opn.OpF.one rfl (by kernel_rfl) op22)))) (fun x : S24 => (x.f0, x.f1, x.f2)) (fun p => ⟨p.1, p.2.1, p.2.2⟩) (fun _ => rfl)
def FnExactCountCovers.Pure : Prop := ∀ (a0 : S24), ok24 a0 → ∃ k, laws_FnExactCountCovers.f k (a0.f0) (a0.f1) (a0.f2) = some true
end Go.Proofs.YtoglcgnbkibpgaaDoor.A

/- What the covers' laws do with instances: sizes, copies, comparisons. -/
namespace Go.Proofs.YtoglcgnbkibpgaaDoor.A
set_option linter.unusedSimpArgs false
set_option linter.unusedVariables false
open Go.RowKit Go.Proofs.YtoglcgnbkibpgaaDoorW.PrintWords Go.Proofs.YtoglcgnbkibpgaaDoorW.PrintLast Go.Proofs.YtoglcgnbkibpgaaDoorW.PrintMore
def szV : List (List Int) → Int → Int
  | [], a => a
  | r :: rs, a => if a - (r.length : Int) < 0 then -1 else szV rs (a - (r.length : Int))
def szL (rows : List (List Int)) : Int := if (1048576 : Int) - (rows.length : Int) < 0 then -1 else szV rows (1048576 - (rows.length : Int))
theorem szV_le : ∀ (rows : List (List Int)) (a : Int), 0 ≤ szV rows a → ∀ r ∈ rows, (r.length : Int) ≤ a
  | [], a, _ => fun r hr => by simp at hr
  | x :: rs, a, h => by
    unfold szV at h
    split at h
    · omega
    · intro r hr
      rw [List.mem_cons] at hr
      rcases hr with rfl | hr
      · omega
      · have := szV_le rs _ h r hr
        omega
theorem szL_ok (rows : List (List Int)) (h : ¬ szL rows < 0) : sizesOk rows := by
  unfold szL at h
  split at h
  · omega
  · refine ⟨by omega, fun r hr => ?_⟩
    have := szV_le rows (1048576 - (rows.length : Int)) (by omega) r hr
    omega
theorem szInt64SS_ev (rows : List (List Int)) (hm : Go.Proofs.YtoglcgnbkibpgaaDoor.Opn.okAll (Go.Proofs.YtoglcgnbkibpgaaDoor.Opn.okAll (Go.Proofs.YtoglcgnbkibpgaaDoor.Opn.okInt .i64)) rows) : Ev (fun k => laws_szInt64SS.f k rows 1048576) (szL rows) := by
  have h1 := hm.1
  have h2 : ∀ r ∈ rows, r.length ≤ maxLen := fun r hr => (hm.2 r hr).1
  unfold maxLen at h1 h2
  unfold laws_szInt64SS.f szL
  have e : wrap64 (1048576 - (rows.length : Int)) = 1048576 - (rows.length : Int) := by unfold wrap64; omega
  rw [e]
  by_cases c : (1048576 : Int) - (rows.length : Int) < 0
  · simp only [c, if_true]
    exact Ev.now _
  · simp only [c, if_false]
    have := ev_listI rows (fun (s : Int) (_ : Nat) => 0 ≤ s ∧ s ≤ 1048576) (fun s i k => laws_szInt64SS.l0 k rows s i) (fun s l => szV l s) (fun s hi => ?_) (fun s j hj hi ih => ?_) rows.length 0 (1048576 - (rows.length : Int)) (by omega) ⟨by omega, by omega⟩
    · simpa using this
    · exact Ev.step (f := fun _ => some s) (fun k => by simp only [laws_szInt64SS.l0]; rw [if_neg (by omega)]) (Ev.now _)
    · have hg : rd_L1 rows (j : Int) = rows[j] := by unfold rd_L1; exact getD_nat rows _ j hj
      have hr := h2 rows[j] (List.getElem_mem hj)
      have ew : wrap64 (s - (rows[j].length : Int)) = s - (rows[j].length : Int) := by unfold wrap64; omega
      refine Ev.succ ?_
      simp only [laws_szInt64SS.l0, show (j : Int) < (rows.length : Int) from by omega, show (0 : Int) ≤ (j : Int) from by omega, if_true, hg, laws_szInt64S.f, ew, wrap_succ j (by omega)]
      rw [show szV (rows[j] :: rows.drop (j + 1)) s = if s - (rows[j].length : Int) < 0 then -1 else szV (rows.drop (j + 1)) (s - (rows[j].length : Int)) from rfl]
      by_cases c2 : s - (rows[j].length : Int) < 0
      · simp only [c2, if_true, Option.bind_some, show ((-1 : Int) < 0) from by decide]
        exact Ev.now _
      · simp only [c2, if_false, Option.bind_some]
        exact ih _ ⟨by omega, by omega⟩
theorem szCover_ev (a b : Int) (rows : List (List Int)) (hm : Go.Proofs.YtoglcgnbkibpgaaDoor.Opn.okAll (Go.Proofs.YtoglcgnbkibpgaaDoor.Opn.okAll (Go.Proofs.YtoglcgnbkibpgaaDoor.Opn.okInt .i64)) rows) : Ev (fun k => laws_szCover.f k a b rows 1048576) (if szL rows < 0 then -1 else szL rows) := by
  unfold laws_szCover.f
  refine Ev.bind (szInt64SS_ev rows hm) ?_
  by_cases c : szL rows < 0
  · simp only [c, if_true]; exact Ev.now _
  · simp only [c, if_false]; exact Ev.now _
theorem toInt64S_ev (l : List Int) (h : l.length ≤ 1048576) : Ev (fun k => laws_toInt64S.f k l) l := by
  unfold laws_toInt64S.f
  simp only [Int.toNat_natCast, show (0 : Int) ≤ l.length from by omega, show l.length ≤ 35184372088832 from by omega, if_true]
  refine ev_at l.length (fun s j => s = (l.take j).map id ++ List.replicate (l.length - j) 0) l (fun s i k => laws_toInt64S.l0 k l s i) (fun s hi => ?_) (fun s j hj hi => ?_) _ (by simp)
  · refine Ev.step (f := fun _ => some s) (fun k => by simp only [laws_toInt64S.l0]; rw [if_neg (by omega)]) ?_
    rw [hi]
    simpa using Ev.now _
  · have hl : s.length = l.length := by rw [hi]; simp; omega
    refine ⟨s.set j (id l[j]), by rw [hi]; exact set_fill id _ l j hj, fun h2 => Ev.step (fun k => ?_) h2⟩
    simp only [laws_toInt64S.l0]
    rw [if_pos (by omega), if_pos (by omega), if_pos (by omega), wrap_succ j (by omega), rd_nat l j hj, Int.toNat_natCast]
    rfl
theorem toInt64SS_ev (l : List (List Int)) (h : sizesOk l) : Ev (fun k => laws_toInt64SS.f k l) l := by
  have h1 := h.1
  unfold laws_toInt64SS.f
  simp only [Int.toNat_natCast, show (0 : Int) ≤ l.length from by omega, show l.length ≤ 11728124029610 from by omega, if_true]
  refine ev_at l.length (fun s j => s = (l.take j).map id ++ List.replicate (l.length - j) []) l (fun s i k => laws_toInt64SS.l0 k l s i) (fun s hi => ?_) (fun s j hj hi => ?_) _ (by simp)
  · refine Ev.step (f := fun _ => some s) (fun k => by simp only [laws_toInt64SS.l0]; rw [if_neg (by omega)]) ?_
    rw [hi]
    simpa using Ev.now _
  · have hl : s.length = l.length := by rw [hi]; simp; omega
    have hg : rd_L1 l (j : Int) = l[j] := by unfold rd_L1; exact getD_nat l _ j hj
    refine ⟨s.set j (id l[j]), by rw [hi]; exact set_fill id _ l j hj, fun h2 => Ev.succ ?_⟩
    simp only [laws_toInt64SS.l0, show (j : Int) < (l.length : Int) from by omega, show (0 : Int) ≤ (j : Int) from by omega, show (j : Int) < (s.length : Int) from by omega, if_true, hg, wrap_succ j (by omega), Int.toNat_natCast]
    exact Ev.bind (toInt64S_ev l[j] (h.2 _ (List.getElem_mem hj))) h2
theorem toCover_ev (a b : Int) (l : List (List Int)) (h : sizesOk l) : Ev (fun k => laws_toCover.f k a b l) (a, b, l) := by
  unfold laws_toCover.f
  exact Ev.bind (toInt64SS_ev l h) (Ev.now _)
theorem eqInt64S_ev (l : List Int) (h : l.length ≤ 1048576) : Ev (fun k => laws_eqInt64S.f k l l) true := by
  unfold laws_eqInt64S.f
  simp only [if_true]
  refine ev_at l.length (fun (_ : Unit) _ => True) true (fun _ i k => laws_eqInt64S.l0 k l l i) (fun s hi => ?_) (fun s j hj hi => ?_) () trivial
  · exact Ev.step (f := fun _ => some true) (fun k => by simp only [laws_eqInt64S.l0]; rw [if_neg (by omega)]) (Ev.now _)
  · refine ⟨(), trivial, fun h2 => Ev.step (fun k => ?_) h2⟩
    simp only [laws_eqInt64S.l0, if_true]
    rw [if_pos (by omega), if_pos (by omega), if_pos (by omega), wrap_succ j (by omega)]
theorem eqInt64SS_ev (l : List (List Int)) (h : sizesOk l) : Ev (fun k => laws_eqInt64SS.f k l l) true := by
  have h1 := h.1
  unfold laws_eqInt64SS.f
  simp only [if_true]
  refine ev_at l.length (fun (_ : Unit) _ => True) true (fun _ i k => laws_eqInt64SS.l0 k l l i) (fun s hi => ?_) (fun s j hj hi => ?_) () trivial
  · exact Ev.step (f := fun _ => some true) (fun k => by simp only [laws_eqInt64SS.l0]; rw [if_neg (by omega)]) (Ev.now _)
  · have hg : rd_L1 l (j : Int) = l[j] := by unfold rd_L1; exact getD_nat l _ j hj
    refine ⟨(), trivial, fun h2 => Ev.succ ?_⟩
    simp only [laws_eqInt64SS.l0, show (j : Int) < (l.length : Int) from by omega, show (0 : Int) ≤ (j : Int) from by omega, if_true, hg, wrap_succ j (by omega)]
    refine Ev.bind (eqInt64S_ev l[j] (h.2 _ (List.getElem_mem hj))) ?_
    simpa using h2
theorem eqCover_ev (a b : Int) (l : List (List Int)) (h : sizesOk l) : Ev (fun k => laws_eqCover.f k a b l a b l) true := by
  unfold laws_eqCover.f
  simp only [if_true]
  exact Ev.bind (eqInt64SS_ev l h) (by simpa using Ev.now true)
end Go.Proofs.YtoglcgnbkibpgaaDoor.A

/- CountCovers: the program's answer is the reference's. -/
namespace Go.Proofs.YtoglcgnbkibpgaaDoor.Pure
open Go.RowKit Go.Proofs.YtoglcgnbkibpgaaDoorW.PrintWords Go.Proofs.YtoglcgnbkibpgaaDoorW.PrintLast Go.Proofs.YtoglcgnbkibpgaaDoorW.PrintMore Go.Proofs.YtoglcgnbkibpgaaDoor.A
theorem FnExactCountCovers : Go.Proofs.YtoglcgnbkibpgaaDoor.A.FnExactCountCovers.Pure := by
  intro a0 hok
  apply Ev.rounds
  unfold laws_FnExactCountCovers.f
  refine Ev.bind (szCover_ev a0.f0 a0.f1 a0.f2 hok.2.2) ?_
  by_cases c : szL a0.f2 < 0
  · simp only [c, if_true, show ((-1 : Int) < 0) from by decide]
    exact Ev.now _
  · simp only [c, if_false]
    have hz := szL_ok a0.f2 c
    refine Ev.bind (toCover_ev a0.f0 a0.f1 a0.f2 hz) (Ev.bind (Ev.val (r := coversOut a0.f0 a0.f1 a0.f2) fun k => by unfold spec_CountCovers.f; exact if_pos hz) (Ev.bind (toCover_ev a0.f0 a0.f1 a0.f2 hz) (Ev.bind (Ev.val (r := coversOut a0.f0 a0.f1 a0.f2) fun k => by unfold impl_CountCovers.f; exact if_pos hz) ?_)))
    simp only [if_true, bne_self_eq_false]
    refine Ev.step (fun k => by simp only [laws_FnExactCountCovers.j0, Bool.false_eq_true, if_false]; rfl) ?_
    refine Ev.bind (toCover_ev a0.f0 a0.f1 a0.f2 hz) (Ev.bind (eqCover_ev a0.f0 a0.f1 a0.f2 hz) (Ev.val fun k => by simp))
end Go.Proofs.YtoglcgnbkibpgaaDoor.Pure

