/- What the row of the law FnStates stands on, part 2. -/
import Derived.Test.YtcobnlilmihjfaaMFnStates1
namespace Go.Proofs.Ytcobnlilmihjfaa.A
open Go.RowKit Go.Proofs.YtcobnlilmihjfaaW.PrintWords Go.Proofs.YtcobnlilmihjfaaW.PrintLast Go.Proofs.YtcobnlilmihjfaaW.PrintMore
set_option linter.unusedVariables false
set_option linter.unusedSimpArgs false
section
attribute [local go_sem] max2_int min2_int max_two min_two max_three min_three max_four min_four
def impl_compareCubes.f (a0_0 : Int) (a0_1 : Int) (a0_2 : Int) (a1_0 : Int) (a1_1 : Int) (a1_2 : Int) : Option (Int) := (cmp_Compare_int64.f a0_2 a1_2).bind fun t319 => (if t319 = 0 then ((impl_compareCells.f a0_0 a0_1 a1_0 a1_1).bind fun t320 => (some t320)) else (some t319))
set_option maxHeartbeats 8000000 in
set_option maxRecDepth 100000 in
theorem impl_compareCubes.calls (a0_0 : Int) (a0_1 : Int) (a0_2 : Int) (a1_0 : Int) (a1_1 : Int) (a1_2 : Int) (r : Int) (w : World) (h : impl_compareCubes.f a0_0 a0_1 a0_2 a1_0 a1_1 a1_2 = some r) :
    Calls Try.prog 102 #[.agg #[.int .i64 a0_0, .int .i64 a0_1, .int .i64 a0_2], .agg #[.int .i64 a1_0, .int .i64 a1_1, .int .i64 a1_2]] w fun e w' => e = .returned (.int .i64 r) ∧ Below w.heap.size w w' := by
 (have hu94 := Try.underlying94); (have hu144 := Try.underlying144); (have HB := A0_ (Below.refl w.heap.size w))
 have H : ((cmp_Compare_int64.f a0_2 a1_2).bind fun t319 => (if t319 = 0 then ((impl_compareCells.f a0_0 a0_1 a1_0 a1_1).bind fun t320 => (some t320)) else (some t319))) = some r := h
 clear h; (replace H := Option.bind_eq_some_iff.mp H); (obtain ⟨t319, A30, H⟩ := H); (try dsimp only at H); (have A3 := A0_ A30); clear A30; (have H0_ := A0_ H); clear H; (go_enter Try.func102, Try.ntmps102); (go_wp2_with (first | ((with_reducible refine gate_dst (N := 2) rfl ?_); refine be_ (N := 2) (cs := #[.int .i64 a0_0, .int .i64 a0_1, .int .i64 a0_2]) (t := 94) ?_; intro gb317 hg w4 hbox hb; have n0_ := A0_ (below_step bw_ hb); have n1_ := A0_ (hbox); have n2_ := A0_ ((by rw [hg]; exact (below_size bw_) : w.heap.size ≤ gb317)); have n3_ := A0_ ((by rw [hg]; exact (below_size bw_) : w.heap.size ≤ gb317)); clear HB; have HB := n0_; have BK317 := n1_; have GW317 := n2_; have GE317 := n3_; clear n0_ n1_ n2_ n3_; clear hb hbox hg) | ((with_reducible refine gate_dst (N := 3) rfl ?_); refine be_ (N := 3) (cs := #[.int .i64 a1_0, .int .i64 a1_1, .int .i64 a1_2]) (t := 94) ?_; intro gb318 hg w5 hbox hb; have n0_ := A0_ (blk_below (g := gb317) (o := .cells #[.int .i64 a0_0, .int .i64 a0_1, .int .i64 a0_2] 94 (0, 0)) (bk_ BK317) hb); have n1_ := A0_ (below_step bx_ hb); have n2_ := A0_ (hbox); have n3_ := A0_ ((by rw [hg]; exact (below_size bx_) : w.heap.size ≤ gb318)); have n4_ := A0_ ((by rw [hg]; exact (below_size bx_) : w.heap.size ≤ gb318)); have n5_ := A0_ ((by rw [hg]; exact Nat.ne_of_lt (blk_lt (g := gb317) (o := .cells #[.int .i64 a0_0, .int .i64 a0_1, .int .i64 a0_2] 94 (0, 0)) (bk_ BK317)) : gb317 ≠ gb318)); have n6_ := A0_ ((by rw [hg]; exact Nat.ne_of_gt (blk_lt (g := gb317) (o := .cells #[.int .i64 a0_0, .int .i64 a0_1, .int .i64 a0_2] 94 (0, 0)) (bk_ BK317)) : gb318 ≠ gb317)); clear BK317; clear HB; have BK317 := n0_; have HB := n1_; have BK318 := n2_; have GW318 := n3_; have GE318 := n4_; have NB317_318 := n5_; have NB318_317 := n6_; clear n0_ n1_ n2_ n3_ n4_ n5_ n6_; clear hb hbox hg; have hnb6 := NB317_318.out; have hnc6 := NB318_317.out; have hcz7_0 : w5.cell? ⟨gb317, 0, none⟩ = some (.int .i64 a0_0) := (blk_cell BK317.out 0).trans rfl; have hcz7_1 : w5.cell? ⟨gb317, 1, none⟩ = some (.int .i64 a0_1) := (blk_cell BK317.out 1).trans rfl; have hcz7_2 : w5.cell? ⟨gb317, 2, none⟩ = some (.int .i64 a0_2) := (blk_cell BK317.out 2).trans rfl; have hfz7_0 := blk_frozen BK317.out 0; have hfz7_1 := blk_frozen BK317.out 1; have hfz7_2 := blk_frozen BK317.out 2; have hcz8_0 : w5.cell? ⟨gb318, 0, none⟩ = some (.int .i64 a1_0) := (blk_cell BK318.out 0).trans rfl; have hcz8_1 : w5.cell? ⟨gb318, 1, none⟩ = some (.int .i64 a1_1) := (blk_cell BK318.out 1).trans rfl; have hcz8_2 : w5.cell? ⟨gb318, 2, none⟩ = some (.int .i64 a1_2) := (blk_cell BK318.out 2).trans rfl; have hfz8_0 := blk_frozen BK318.out 0; have hfz8_1 := blk_frozen BK318.out 1; have hfz8_2 := blk_frozen BK318.out 2) | ((with_reducible refine gate_callee (f := 114) rfl ?_); refine gl_ (some 10) Try.func114 #[.int .i64 a0_2, .int .i64 a1_2] ?_; (with_reducible refine (cmp_Compare_int64.calls a0_2 a1_2 t319 _ A3.out).mono ?_); rintro e w' ⟨rfl, ⟨nd, rfl⟩⟩; refine ⟨_, rfl, ?_⟩; refine Stop0.out ?_))); (refine Stop0.mk ?_); (have H := H0_.out); clear H0_; (by_cases c9 : t319 = 0)
 ·(rw [if_pos c9] at H); (have c9b0 : (t319 == 0) = true := beq_iff_eq.mpr c9); (have c9b1 : (t319 != 0) = false := bne_eq_false_iff_eq.mpr c9); clear c9; (replace H := Option.bind_eq_some_iff.mp H); (obtain ⟨t320, A100, H⟩ := H); (try dsimp only at H); (have A10 := A0_ A100); clear A100; (have H0_ := A0_ H); clear H; (have hnb11 := NB317_318.out); (have hnc11 := NB318_317.out); (have hcz12_0 : w5.cell? ⟨gb317, 0, none⟩ = some (.int .i64 a0_0) := (blk_cell BK317.out 0).trans rfl); (have hcz12_1 : w5.cell? ⟨gb317, 1, none⟩ = some (.int .i64 a0_1) := (blk_cell BK317.out 1).trans rfl); (have hcz12_2 : w5.cell? ⟨gb317, 2, none⟩ = some (.int .i64 a0_2) := (blk_cell BK317.out 2).trans rfl); (have hfz12_0 := blk_frozen BK317.out 0); (have hfz12_1 := blk_frozen BK317.out 1); (have hfz12_2 := blk_frozen BK317.out 2); (have hcz13_0 : w5.cell? ⟨gb318, 0, none⟩ = some (.int .i64 a1_0) := (blk_cell BK318.out 0).trans rfl); (have hcz13_1 : w5.cell? ⟨gb318, 1, none⟩ = some (.int .i64 a1_1) := (blk_cell BK318.out 1).trans rfl); (have hcz13_2 : w5.cell? ⟨gb318, 2, none⟩ = some (.int .i64 a1_2) := (blk_cell BK318.out 2).trans rfl); (have hfz13_0 := blk_frozen BK318.out 0); (have hfz13_1 := blk_frozen BK318.out 1); (have hfz13_2 := blk_frozen BK318.out 2); (go_wp2_with (first | ((with_reducible refine gate_callee (f := 115) rfl ?_); refine gl_ (some 24) Try.func115 #[.agg #[.int .i64 a0_0, .int .i64 a0_1], .agg #[.int .i64 a1_0, .int .i64 a1_1]] ?_; (with_reducible refine (impl_compareCells.calls a0_0 a0_1 a1_0 a1_1 t320 _ A10.out).mono ?_); rintro e w14 ⟨rfl, hb⟩; refine ⟨_, rfl, ?_⟩; have n0_ := A0_ (blk_below (g := gb317) (o := .cells #[.int .i64 a0_0, .int .i64 a0_1, .int .i64 a0_2] 94 (0, 0)) (bk_ BK317) hb); have n1_ := A0_ (blk_below (g := gb318) (o := .cells #[.int .i64 a1_0, .int .i64 a1_1, .int .i64 a1_2] 94 (0, 0)) (bk_ BK318) hb); have n2_ := A0_ (below_step bx_ hb); clear BK317; clear BK318; clear HB; have BK317 := n0_; have BK318 := n1_; have HB := n2_; clear n0_ n1_ n2_; (try clear hb); (try clear hb2); (try clear hk); (try clear hi); refine Stop0.out ?_))); (refine Stop0.mk ?_); (have H := H0_.out); clear H0_; (obtain rfl := Option.some.inj H); go_wp2; go_ret; (exact ⟨er_, bx_⟩)
 ·(rw [if_neg c9] at H); (have c9b0 : (t319 == 0) = false := beq_eq_false_iff_ne.mpr c9); (have c9b1 : (t319 != 0) = true := bne_iff_ne.mpr c9); (obtain rfl := Option.some.inj H); go_wp2; go_ret; (exact ⟨er_, bx_⟩)
end
theorem coord_eq (a : Int) : impl_isCoordinate.f a = some (inR a (-100) 100) := by
 unfold impl_isCoordinate.f
 rw [within_eq]
 rfl
theorem nan_eq (a : Int) : cmp_isNaN_int64.f a = some false := by
 unfold cmp_isNaN_int64.f
 simp
theorem cmp_eq (a b : Int) : cmp_Compare_int64.f a b = some (if a < b then -1 else if a = b then 0 else 1) := by
 unfold cmp_Compare_int64.f
 rw [nan_eq, nan_eq]
 by_cases h : a < b
 ·simp [h]
 ·by_cases e : a = b
  ·subst e; simp
  ·have : b < a := by omega
   simp [h, e, this]
theorem compare_eq (a b : Cb) : ∃ t : Int, impl_compareCubes.f a.f0 a.f1 a.f2 b.f0 b.f1 b.f2 = some t ∧ decide (t ≥ 0) = !lessC a b := by
 unfold impl_compareCubes.f impl_compareCells.f lessC
 simp only [cmp_eq, Option.bind_some]
 by_cases e2 : a.f2 = b.f2
 ·rw [if_neg (show ¬ a.f2 < b.f2 by omega), if_pos e2, if_pos e2]
  by_cases e1 : a.f1 = b.f1
  ·rw [if_neg (show ¬ a.f1 < b.f1 by omega), if_pos e1, if_pos e1]
   by_cases e0 : a.f0 < b.f0
   ·refine ⟨-1, by simp [e0], ?_⟩
    rw [decide_eq_true e0]; rfl
   ·by_cases e0' : a.f0 = b.f0
    ·refine ⟨0, by simp [e0'], ?_⟩
     rw [decide_eq_false e0]; rfl
    ·refine ⟨1, by simp [e0, e0'], ?_⟩
     rw [decide_eq_false e0]; rfl
  ·by_cases c1 : a.f1 < b.f1
   ·refine ⟨-1, by simp [c1], ?_⟩
    rw [if_neg e1, decide_eq_true c1]; rfl
   ·refine ⟨1, by simp [c1, e1], ?_⟩
    rw [if_neg e1, decide_eq_false c1]; rfl
 ·by_cases c2 : a.f2 < b.f2
  ·refine ⟨-1, by simp [c2], ?_⟩
   rw [if_neg e2, decide_eq_true c2]; rfl
  ·refine ⟨1, by simp [c2, e2], ?_⟩
   rw [if_neg e2, decide_eq_false c2]; rfl
end Go.Proofs.Ytcobnlilmihjfaa.A
/- A whole struct is stored into a block of one's own, over separate resources. -/
namespace Go.Proofs.YtcobnlilmihjfaaW.PrintMore
open Go.RowKit Go.Proofs.YtcobnlilmihjfaaW.PrintWords Go.Proofs.YtcobnlilmihjfaaW.PrintLast
set_option linter.unusedVariables false
theorem setCells_upd (g : Nat) : ∀ (vs : List Value) (o : Nat) (w : World) (cs : Array Value) (t : TypeId), w.heap[g]? = some (.cells cs t (0, 0)) → o + vs.length ≤ cs.size →
  ∃ cs' : Array Value, (w.setCells g o vs).heap[g]? = some (.cells cs' t (0, 0)) ∧ cs'.toList = cs.toList.take o ++ vs ++ cs.toList.drop (o + vs.length) ∧ (w.setCells g o vs).heap.size = w.heap.size
 | [], o, w, cs, t, h, hl => ⟨cs, h, by simp, rfl⟩
 | v :: r, o, w, cs, t, h, hl => by
  have hl' : o + (r.length + 1) ≤ cs.size := hl
  have h1 := blk_put (cs' := cs.setIfInBounds o v) h o v rfl
  obtain ⟨cs', h2, h3, h4⟩ := setCells_upd g r (o + 1) (w.setCell ⟨g, o, none⟩ v) _ t h1 (by simp; omega)
  refine ⟨cs', h2, ?_, h4.trans (by simp [World.setCell])⟩
  rw [h3]
  have hlen : o < cs.toList.length := by rw [Array.length_toList]; omega
  rw [show (cs.setIfInBounds o v).toList = cs.toList.set o v from Array.toList_setIfInBounds, List.length_cons, show o + 1 + r.length = o + (r.length + 1) from by omega]
  rw [List.take_succ_eq_append_getElem (by rw [List.length_set]; exact hlen), List.getElem_set_self, List.take_set_of_le (Nat.le_refl _), List.drop_set_of_lt (by omega)]
  simp
theorem setCells_rest (g : Nat) : ∀ (vs : List Value) (o : Nat) (w : World), (w.setCells g o vs).os = w.os ∧ (w.setCells g o vs).tape = w.tape ∧ (w.setCells g o vs).output = w.output
 | [], _, _ => ⟨rfl, rfl, rfl⟩
 | v :: r, o, w => setCells_rest g r (o + 1) (w.setCell ⟨g, o, none⟩ v)
theorem setCells_far (g k : Nat) (hne : k ≠ g) : ∀ (vs : List Value) (o : Nat) (w : World), (w.setCells g o vs).heap[k]? = w.heap[k]?
 | [], _, _ => rfl
 | v :: r, o, w => (setCells_far g k hne r (o + 1) (w.setCell ⟨g, o, none⟩ v)).trans (Below.heap_setCell w ⟨g, o, none⟩ v k (fun e => hne (by first | exact e | exact e.symm)))
section
variable {P : Program} {w0 w : World} {rs : List Res} {i g : Nat} {cs : Array Value} {t : TypeId}
theorem Sp.blkAll (h : Sp w0 rs w) (hi : rs[i]? = some (Res.blk g cs t)) (cs' : Array Value) (hl : cs'.size = cs.size) : Sp w0 (rs.set i (Res.blk g cs' t)) (w.setCells g 0 cs'.toList) := by
 obtain ⟨h1, _⟩ := Sp.blk h hi
 obtain ⟨c2, h2, h3, h4⟩ := setCells_upd g cs'.toList 0 w cs t h1 (by rw [Array.length_toList]; omega)
 have he : c2 = cs' := by
  apply Array.toList_inj.1
  rw [h3, Array.length_toList, Nat.zero_add, hl, ← Array.length_toList, List.drop_length]
  simp
 subst he
 refine h.upd (r' := Res.blk g c2 t) hi (fun fp hp hb => ⟨⟨(setCells_rest g _ 0 w).1, (setCells_rest g _ 0 w).2.1, (setCells_rest g _ 0 w).2.2, Nat.le_of_eq h4.symm, fun k hk hn => setCells_far g k (fun e => hn (e ▸ hp.1)) _ 0 w⟩, .inl hp.1, h2⟩)
theorem Sp.blkStore (h : Sp w0 rs w) (hi : rs[i]? = some (Res.blk g cs t)) (u : Value) (cs' : Array Value) (hl : cs'.size = cs.size) (hu : u.cells = cs') (ht : (P.info? t).map (·.size) = some cs'.size) (h1 : ∀ q ∈ cs'.toList, q.oneCell' = true) :
  (Instr.storeAt t (.pointer (some ⟨g, 0, none⟩)) u).run P w = .ok () (w.setCells g 0 cs'.toList) := by
 obtain ⟨h2, _⟩ := Sp.blk h hi
 exact run_store_run t u cs'.toList h2 (by rw [hu]) (by rw [ht, Array.length_toList]) (by rw [Array.length_toList]; omega) h1
end
end Go.Proofs.YtcobnlilmihjfaaW.PrintMore

namespace Go.Proofs.Ytcobnlilmihjfaa.A
open Go.RowKit Go.Proofs.YtcobnlilmihjfaaW.PrintWords Go.Proofs.YtcobnlilmihjfaaW.PrintLast Go.Proofs.YtcobnlilmihjfaaW.PrintMore
set_option linter.unusedVariables false
set_option linter.unusedSimpArgs false
def impl_isSolid.f (k : Nat) (l : List Cb) : Option Bool := if l.length ≤ 1048576 then some (solP l) else none
theorem compare_at (a b : Cb) : ∃ t : Int, impl_compareCubes.f a.f0 a.f1 a.f2 b.f0 b.f1 b.f2 = some t ∧ decide (t ≥ 0) = !lessC a b := compare_eq a b
def isoF.T4 : Bool × List (List Nat × List Nat) := (true, [([], []), ([0], [0]), ([1], [1]), ([2], [2]), ([3, 2], [3]), ([4], [4]), ([5, 4], [4, 5]), ([6, 4, 4], [4, 6]), ([7, 4], [4, 7]), ([4, 8], [4, 8]), ([9, 7], [9]), ([10], [10]), ([11, 10], [10, 11]), ([12, 10, 10], [10, 12]), ([13, 10], [10, 13]), ([10, 14], [10, 14]), ([15, 13], [15]), ([16], [16]), ([17, 16], [16, 17]), ([18, 16, 16], [16, 18]), ([19], [19]), ([19], [19]), ([21, 19], [19, 21]), ([20, 22, 19], [19, 20, 22]), ([23, 19], [19, 23]), ([19], [19]), ([24, 25, 19, 19], [19, 24, 25]), ([26, 19], [19, 26]), ([19, 27, 16], [16, 19, 27]), ([16, 28], [16, 28])])
def isoF.B4 : List Nat := [0, 1, 3, 7, 15, 31, 63, 127, 255, 511, 1023, 2047, 4095, 8191, 16383, 32767, 65535, 131071, 262143, 524287, 1048575, 1048575, 3145727, 8388607, 16777215, 1048575, 67108863, 134217727, 268435455, 536870911]
theorem isoF.tab4 : rtab .any (opsOf Try.f72 4) = isoF.T4 := by kernel_rfl
theorem isoF.bits4 : waitsOk isoF.T4.2 isoF.B4 = true := by kernel_rfl
set_option maxHeartbeats 4000000 in
set_option maxRecDepth 100000 in
theorem impl_isSolid.calls (k : Nat) (A0 : Option Addr) (c0 : Nat) (l : List Cb) (r : Bool) (w : World) (hr0 : Kd.C k94 w A0 l.length l) (hc0 : l.length ≤ c0) (h : impl_isSolid.f k l = some r) :
    Calls Try.prog 72 #[.slice A0 l.length c0] w fun e w' => e = .returned (.bool r) ∧ Below w.heap.size w w' := by
 (have hu69 := Try.underlying94); (unfold impl_isSolid.f at h); (split at h)
 case isFalse => cases h
 (rename_i hz); (obtain rfl := Option.some.inj h); (have HR0 := A0_ hr0); (have HZ := A0_ hz); (have HS := A0_ (Sp.start w)); clear hr0 hz h; (go_enter Try.func72, Try.ntmps72); go_wp2
 go_loopg [7] (l.length + 1) (fun kq v7 w' => ∃ (i : Nat), v7 = .int .i64 (i : Int) ∧ Aside0 (i ≤ l.length ∧ kq + i = l.length + 1 ∧ (List.range i).all (solStep l) = true) ∧ Aside0 (Sp w [] w'))
 case atStart => exact ⟨0, rfl, ⟨by omega, by omega, rfl⟩, HS⟩
 case round =>
  clear HS; (obtain ⟨i, rfl, HX, HS⟩ := hrel); (obtain ⟨k1, rfl⟩ : ∃ k1, gk = k1 + 1 := ⟨gk - 1, by have := HX.out; omega⟩); (by_cases ci : i < l.length)
  ·(have ci0 : decide (i < l.length) = true := decide_eq_true ci); (have q0 : (0 ≤ (i : Int)) = True := eq_true (by omega)); (have q1 : ((i : Int) < (l.length : Int)) = True := eq_true (by omega)); (have q2 : (i < l.length) = True := eq_true ci); (have HW := A0_ (wrap_succ i (by have := HZ.out; omega))); (have HNO := A0_ (solP_no l i ci)); (have HNX := A0_ (solP_next l i HX.out.2.2)); (obtain ⟨adl, e, hx0, hx1, hx2⟩ := at_T94 (Kd.C_below HR0.out HS.out.below) (i : Int) (by omega) (by omega)); subst e; (rw [show rd_T94 l (i : Int) = cAt l i from rfl] at hx0 hx1 hx2); (rw [Int.toNat_natCast] at hx0 hx1 hx2); (have hss : solStep l i = (inCb (cAt l i) (-100) 100 && (decide (i = 0) || lessC (cAt l (i - 1)) (cAt l i))) := rfl); (rw [hss] at HNO HNX); clear hss; (have HCI := A0_ ci); (obtain ⟨c, hc⟩ : ∃ c, c = cAt l i := ⟨_, rfl⟩); (rw [← hc] at hx0 hx1 hx2 HNO HNX); clear ci hc; go_wp2; (obtain ⟨gc, hg_⟩ : ∃ g_, g_ = (wr).heap.size := ⟨_, rfl⟩; obtain ⟨wx, hw_⟩ : ∃ w_, w_ = (wr).alloc (.cells #[.int .i64 c.f0, .int .i64 c.f1, .int .i64 c.f2] 94) := ⟨_, rfl⟩; (try rw [← hw_]); (try rw [← hg_]); have HS_ := A0_ (Sp.box HS.out #[.int .i64 c.f0, .int .i64 c.f1, .int .i64 c.f2] 94); rw [← hw_, ← hg_] at HS_; clear HS; have HS := HS_; clear HS_ hw_ hg_); (have HS_ := A0_ (show Sp w ([Res.blk gc #[.int .i64 c.f0, .int .i64 c.f1, .int .i64 c.f2] 94] ++ ([] : List Res)) wx.drew from Sp.drew HS.out)); clear HS hx0 hx1 hx2; (have HS := HS_); clear HS_
   cases b0 : inR c.f0 (-100) 100 with
   | false =>
    (have HB0 := A0_ ((coord_eq c.f0).trans (congrArg some b0))); (have HF := A0_ (HNO.out (by unfold inCb; rw [b0]; rfl))); clear HNO HNX b0
    refine start_ (n := 30) (S := fun w' => w'.cell? ⟨gc, 0, none⟩ = some (.int .i64 c.f0) ∧ w'.cell? ⟨gc, 1, none⟩ = some (.int .i64 c.f1) ∧ w'.cell? ⟨gc, 2, none⟩ = some (.int .i64 c.f2)) (ds := []) #[ff,ff,ff,ff,ff,ff,ff,ff,ff,ff,ff,ff,ff,ff,ff,ff,ff,ff,ff,ff,ff,ff,ff,ff,ff,ff,ff,ff,ff,ff] (by kernel_rfl) rfl rfl (⟨(cl_ HS 0 0 rfl).trans rfl, (cl_ HS 0 1 rfl).trans rfl, (cl_ HS 0 2 rfl).trans rfl⟩) (fun hHeld => ?_)
    refine with_tabW isoF.tab4 isoF.bits4 (fun HT_ HW_ => ?_)
    (generalize wx.drew = wD at HS hHeld ⊢); (refine on_ 0 (some 12) ?_); (refine tk_ 1 (some 13) ?_)
    refine o1_ 2 (some 14) (fun K hK => ?_)
    (refine gs_ Try.func101 #[.int .i64 c.f0] ?_); (refine (impl_isCoordinate.calls c.f0 false _ HB0.out).mono ?_); (rintro e wA11 ⟨rfl, hb⟩); (refine ⟨_, rfl, ?_⟩); (replace HS := A0_ (Sp.far HS.out hb.below)); clear hb
    refine hK.out _ _ (⟨(cl_ HS 0 0 rfl).trans rfl, (cl_ HS 0 1 rfl).trans rfl, (cl_ HS 0 2 rfl).trans rfl⟩) (fun hHeld => ?_)
    clear hK K; (refine nm_ (some 14) ?_); (refine on_ 3 (some 15) ?_); (refine on_ 4 (some 16) ?_); (refine of_ 5 (some 17) ?_); (refine of_ 6 (some 18) ?_); (refine of_ 7 (some 19) ?_); (refine of_ 8 (some 20) ?_); (refine on_ 9 (some 21) ?_); (refine on_ 10 (some 22) ?_); (refine of_ 11 (some 23) ?_); (refine of_ 12 (some 24) ?_); (refine of_ 13 (some 25) ?_); (refine of_ 14 (some 26) ?_); (refine on_ 15 (some 27) ?_); (refine on_ 16 (some 28) ?_); (refine of_ 17 (some 29) ?_); (refine of_ 18 (some 30) ?_); (refine of_ 19 (some 31) ?_); (refine of_ 20 (some 32) ?_); (refine of_ 21 (some 33) ?_); (refine of_ 22 (some 34) ?_); (refine of_ 23 (some 35) ?_); (refine of_ 24 (some 36) ?_); (refine of_ 25 (some 37) ?_); (refine of_ 26 (some 38) ?_); (refine of_ 27 (some 39) ?_); (refine of_ 28 (some 40) ?_); (refine on_ 29 (some 41) ?_); (refine dn_ ?_); go_wp2; go_ret; (exact ⟨by rw [HF.out]; rfl, HS.out.below⟩)
   | true =>
    (have HB0 := A0_ ((coord_eq c.f0).trans (congrArg some b0)))
    cases b1 : inR c.f1 (-100) 100 with
    | false =>
     (have HB1 := A0_ ((coord_eq c.f1).trans (congrArg some b1))); (have HF := A0_ (HNO.out (by unfold inCb; rw [b0, b1]; rfl))); clear HNO HNX b0 b1
     refine start_ (n := 30) (S := fun w' => w'.cell? ⟨gc, 0, none⟩ = some (.int .i64 c.f0) ∧ w'.cell? ⟨gc, 1, none⟩ = some (.int .i64 c.f1) ∧ w'.cell? ⟨gc, 2, none⟩ = some (.int .i64 c.f2)) (ds := []) #[ff,ff,ff,ff,ff,ff,ff,ff,ff,ff,ff,ff,ff,ff,ff,ff,ff,ff,ff,ff,ff,ff,ff,ff,ff,ff,ff,ff,ff,ff] (by kernel_rfl) rfl rfl (⟨(cl_ HS 0 0 rfl).trans rfl, (cl_ HS 0 1 rfl).trans rfl, (cl_ HS 0 2 rfl).trans rfl⟩) (fun hHeld => ?_)
     refine with_tabW isoF.tab4 isoF.bits4 (fun HT_ HW_ => ?_)
     (generalize wx.drew = wD at HS hHeld ⊢); (refine on_ 0 (some 12) ?_); (refine tk_ 1 (some 13) ?_)
     refine o1_ 2 (some 14) (fun K hK => ?_)
     (refine gs_ Try.func101 #[.int .i64 c.f0] ?_); (refine (impl_isCoordinate.calls c.f0 true _ HB0.out).mono ?_); (rintro e wA11 ⟨rfl, hb⟩); (refine ⟨_, rfl, ?_⟩); (replace HS := A0_ (Sp.far HS.out hb.below)); clear hb
     refine hK.out _ _ (⟨(cl_ HS 0 0 rfl).trans rfl, (cl_ HS 0 1 rfl).trans rfl, (cl_ HS 0 2 rfl).trans rfl⟩) (fun hHeld => ?_)
     clear hK K; (refine nm_ (some 14) ?_); (refine on_ 3 (some 15) ?_); (refine on_ 4 (some 16) ?_); (refine on_ 5 (some 17) ?_); (refine tk_ 6 (some 18) ?_)
     refine o1_ 7 (some 19) (fun K hK => ?_)
     (refine gs_ Try.func101 #[.int .i64 c.f1] ?_); (refine (impl_isCoordinate.calls c.f1 false _ HB1.out).mono ?_); (rintro e wA12 ⟨rfl, hb⟩); (refine ⟨_, rfl, ?_⟩); (replace HS := A0_ (Sp.far HS.out hb.below)); clear hb
     refine hK.out _ _ (⟨(cl_ HS 0 0 rfl).trans rfl, (cl_ HS 0 1 rfl).trans rfl, (cl_ HS 0 2 rfl).trans rfl⟩) (fun hHeld => ?_)
     clear hK K; (refine nm_ (some 19) ?_); (refine on_ 8 (some 20) ?_); (refine on_ 9 (some 21) ?_); (refine on_ 10 (some 22) ?_); (refine of_ 11 (some 23) ?_); (refine of_ 12 (some 24) ?_); (refine of_ 13 (some 25) ?_); (refine of_ 14 (some 26) ?_); (refine on_ 15 (some 27) ?_); (refine on_ 16 (some 28) ?_); (refine of_ 17 (some 29) ?_); (refine of_ 18 (some 30) ?_); (refine of_ 19 (some 31) ?_); (refine of_ 20 (some 32) ?_); (refine of_ 21 (some 33) ?_); (refine of_ 22 (some 34) ?_); (refine of_ 23 (some 35) ?_); (refine of_ 24 (some 36) ?_); (refine of_ 25 (some 37) ?_); (refine of_ 26 (some 38) ?_); (refine of_ 27 (some 39) ?_); (refine of_ 28 (some 40) ?_); (refine on_ 29 (some 41) ?_); (refine dn_ ?_); go_wp2; go_ret; (exact ⟨by rw [HF.out]; rfl, HS.out.below⟩)
    | true =>
     (have HB1 := A0_ ((coord_eq c.f1).trans (congrArg some b1)))
     cases b2 : inR c.f2 (-100) 100 with
     | false =>
      (have HB2 := A0_ ((coord_eq c.f2).trans (congrArg some b2))); (have HF := A0_ (HNO.out (by unfold inCb; rw [b0, b1, b2]; rfl))); clear HNO HNX b0 b1 b2
      refine start_ (n := 30) (S := fun w' => w'.cell? ⟨gc, 0, none⟩ = some (.int .i64 c.f0) ∧ w'.cell? ⟨gc, 1, none⟩ = some (.int .i64 c.f1) ∧ w'.cell? ⟨gc, 2, none⟩ = some (.int .i64 c.f2)) (ds := []) #[ff,ff,ff,ff,ff,ff,ff,ff,ff,ff,ff,ff,ff,ff,ff,ff,ff,ff,ff,ff,ff,ff,ff,ff,ff,ff,ff,ff,ff,ff] (by kernel_rfl) rfl rfl (⟨(cl_ HS 0 0 rfl).trans rfl, (cl_ HS 0 1 rfl).trans rfl, (cl_ HS 0 2 rfl).trans rfl⟩) (fun hHeld => ?_)
      refine with_tabW isoF.tab4 isoF.bits4 (fun HT_ HW_ => ?_)
      (generalize wx.drew = wD at HS hHeld ⊢); (refine on_ 0 (some 12) ?_); (refine tk_ 1 (some 13) ?_)
      refine o1_ 2 (some 14) (fun K hK => ?_)
      (refine gs_ Try.func101 #[.int .i64 c.f0] ?_); (refine (impl_isCoordinate.calls c.f0 true _ HB0.out).mono ?_); (rintro e wA11 ⟨rfl, hb⟩); (refine ⟨_, rfl, ?_⟩); (replace HS := A0_ (Sp.far HS.out hb.below)); clear hb
      refine hK.out _ _ (⟨(cl_ HS 0 0 rfl).trans rfl, (cl_ HS 0 1 rfl).trans rfl, (cl_ HS 0 2 rfl).trans rfl⟩) (fun hHeld => ?_)
      clear hK K; (refine nm_ (some 14) ?_); (refine on_ 3 (some 15) ?_); (refine on_ 4 (some 16) ?_); (refine on_ 5 (some 17) ?_); (refine tk_ 6 (some 18) ?_)
      refine o1_ 7 (some 19) (fun K hK => ?_)
      (refine gs_ Try.func101 #[.int .i64 c.f1] ?_); (refine (impl_isCoordinate.calls c.f1 true _ HB1.out).mono ?_); (rintro e wA12 ⟨rfl, hb⟩); (refine ⟨_, rfl, ?_⟩); (replace HS := A0_ (Sp.far HS.out hb.below)); clear hb
      refine hK.out _ _ (⟨(cl_ HS 0 0 rfl).trans rfl, (cl_ HS 0 1 rfl).trans rfl, (cl_ HS 0 2 rfl).trans rfl⟩) (fun hHeld => ?_)
      clear hK K; (refine nm_ (some 19) ?_); (refine on_ 8 (some 20) ?_); (refine on_ 9 (some 21) ?_); (refine on_ 10 (some 22) ?_); (refine on_ 11 (some 23) ?_); (refine tk_ 12 (some 24) ?_)
      refine o1_ 13 (some 25) (fun K hK => ?_)
      (refine gs_ Try.func101 #[.int .i64 c.f2] ?_); (refine (impl_isCoordinate.calls c.f2 false _ HB2.out).mono ?_); (rintro e wA13 ⟨rfl, hb⟩); (refine ⟨_, rfl, ?_⟩); (replace HS := A0_ (Sp.far HS.out hb.below)); clear hb
      refine hK.out _ _ (⟨(cl_ HS 0 0 rfl).trans rfl, (cl_ HS 0 1 rfl).trans rfl, (cl_ HS 0 2 rfl).trans rfl⟩) (fun hHeld => ?_)
      clear hK K; (refine nm_ (some 25) ?_); (refine on_ 14 (some 26) ?_); (refine on_ 15 (some 27) ?_); (refine on_ 16 (some 28) ?_); (refine of_ 17 (some 29) ?_); (refine of_ 18 (some 30) ?_); (refine of_ 19 (some 31) ?_); (refine of_ 20 (some 32) ?_); (refine of_ 21 (some 33) ?_); (refine of_ 22 (some 34) ?_); (refine of_ 23 (some 35) ?_); (refine of_ 24 (some 36) ?_); (refine of_ 25 (some 37) ?_); (refine of_ 26 (some 38) ?_); (refine of_ 27 (some 39) ?_); (refine of_ 28 (some 40) ?_); (refine on_ 29 (some 41) ?_); (refine dn_ ?_); go_wp2; go_ret; (exact ⟨by rw [HF.out]; rfl, HS.out.below⟩)
     | true =>
      (have HB2 := A0_ ((coord_eq c.f2).trans (congrArg some b2))); (have hin : inCb c (-100) 100 = true := by unfold inCb; rw [b0, b1, b2]; rfl); (rw [hin, Bool.true_and] at HNO HNX); clear b0 b1 b2 hin; (by_cases hi0 : i = 0)
      ·subst hi0; (have HN := A0_ (HNX.out rfl)); clear HNO HNX
       refine start_ (n := 30) (S := fun w' => w'.cell? ⟨gc, 0, none⟩ = some (.int .i64 c.f0) ∧ w'.cell? ⟨gc, 1, none⟩ = some (.int .i64 c.f1) ∧ w'.cell? ⟨gc, 2, none⟩ = some (.int .i64 c.f2)) (ds := []) #[ff,ff,ff,ff,ff,ff,ff,ff,ff,ff,ff,ff,ff,ff,ff,ff,ff,ff,ff,ff,ff,ff,ff,ff,ff,ff,ff,ff,ff,ff] (by kernel_rfl) rfl rfl (⟨(cl_ HS 0 0 rfl).trans rfl, (cl_ HS 0 1 rfl).trans rfl, (cl_ HS 0 2 rfl).trans rfl⟩) (fun hHeld => ?_)
       refine with_tabW isoF.tab4 isoF.bits4 (fun HT_ HW_ => ?_)
       (generalize wx.drew = wD at HS hHeld ⊢); (refine on_ 0 (some 12) ?_); (refine tk_ 1 (some 13) ?_)
       refine o1_ 2 (some 14) (fun K hK => ?_)
       (refine gs_ Try.func101 #[.int .i64 c.f0] ?_); (refine (impl_isCoordinate.calls c.f0 true _ HB0.out).mono ?_); (rintro e wA11 ⟨rfl, hb⟩); (refine ⟨_, rfl, ?_⟩); (replace HS := A0_ (Sp.far HS.out hb.below)); clear hb
       refine hK.out _ _ (⟨(cl_ HS 0 0 rfl).trans rfl, (cl_ HS 0 1 rfl).trans rfl, (cl_ HS 0 2 rfl).trans rfl⟩) (fun hHeld => ?_)
       clear hK K; (refine nm_ (some 14) ?_); (refine on_ 3 (some 15) ?_); (refine on_ 4 (some 16) ?_); (refine on_ 5 (some 17) ?_); (refine tk_ 6 (some 18) ?_)
       refine o1_ 7 (some 19) (fun K hK => ?_)
       (refine gs_ Try.func101 #[.int .i64 c.f1] ?_); (refine (impl_isCoordinate.calls c.f1 true _ HB1.out).mono ?_); (rintro e wA12 ⟨rfl, hb⟩); (refine ⟨_, rfl, ?_⟩); (replace HS := A0_ (Sp.far HS.out hb.below)); clear hb
       refine hK.out _ _ (⟨(cl_ HS 0 0 rfl).trans rfl, (cl_ HS 0 1 rfl).trans rfl, (cl_ HS 0 2 rfl).trans rfl⟩) (fun hHeld => ?_)
       clear hK K; (refine nm_ (some 19) ?_); (refine on_ 8 (some 20) ?_); (refine on_ 9 (some 21) ?_); (refine on_ 10 (some 22) ?_); (refine on_ 11 (some 23) ?_); (refine tk_ 12 (some 24) ?_)
       refine o1_ 13 (some 25) (fun K hK => ?_)
       (refine gs_ Try.func101 #[.int .i64 c.f2] ?_); (refine (impl_isCoordinate.calls c.f2 true _ HB2.out).mono ?_); (rintro e wA13 ⟨rfl, hb⟩); (refine ⟨_, rfl, ?_⟩); (replace HS := A0_ (Sp.far HS.out hb.below)); clear hb
       refine hK.out _ _ (⟨(cl_ HS 0 0 rfl).trans rfl, (cl_ HS 0 1 rfl).trans rfl, (cl_ HS 0 2 rfl).trans rfl⟩) (fun hHeld => ?_)
       clear hK K; (refine nm_ (some 25) ?_); (refine on_ 14 (some 26) ?_); (refine on_ 15 (some 27) ?_); (refine on_ 16 (some 28) ?_); (refine on_ 17 (some 29) ?_); (refine on_ 18 (some 30) ?_); (refine on_ 19 (some 31) ?_); (refine of_ 20 (some 32) ?_); (refine of_ 21 (some 33) ?_); (refine of_ 22 (some 34) ?_); (refine of_ 23 (some 35) ?_); (refine of_ 24 (some 36) ?_); (refine of_ 25 (some 37) ?_); (refine of_ 26 (some 38) ?_); (refine of_ 27 (some 39) ?_); (refine on_ 28 (some 40) ?_); (refine on_ 29 (some 41) ?_); (refine dn_ ?_); go_wp2; (replace HS := A0_ (show Sp w [] _ from Sp.tail HS.out)); (go_roundg k1)
       case measure => omega
       case rel =>
        (exact ⟨1, rfl, ⟨by have := HCI.out; omega, by have := HX.out; omega, HN.out⟩, HS⟩)
      ·(have d0 : decide (0 < i) = true := decide_eq_true (by omega)); (have d1 : (0 < i) = True := eq_true (by omega)); (have d2 : decide ((0 : Int) < (i : Int)) = true := decide_eq_true (by omega)); (have d3 : ((0 : Int) < (i : Int)) = True := eq_true (by omega)); (have e1 : wrap64 ((i : Int) - 1) = ((i - 1 : Nat) : Int) := by rw [wrap_id (by omega) (by have := HZ.out; have := HCI.out; omega)]; omega); (have p0 : (0 ≤ ((i - 1 : Nat) : Int)) = True := eq_true (by omega)); (have p1 : (((i - 1 : Nat) : Int) < (l.length : Int)) = True := eq_true (by have := HCI.out; omega)); (have p2 : (i - 1 < l.length) = True := eq_true (by have := HCI.out; omega)); (rw [decide_eq_false hi0, Bool.false_or] at HNO HNX); (obtain ⟨ad2, e, hx0, hx1, hx2⟩ := at_T94 HR0.out ((i - 1 : Nat) : Int) (by omega) (by have := HCI.out; omega)); (injection e with e); subst e; (rw [show rd_T94 l ((i - 1 : Nat) : Int) = cAt l (i - 1) from rfl] at hx0 hx1 hx2); (rw [Int.toNat_natCast] at hx0 hx1 hx2); (obtain ⟨q, hq⟩ : ∃ q, q = cAt l (i - 1) := ⟨_, rfl⟩); (rw [← hq] at hx0 hx1 hx2 HNO HNX); (have HQ0 := A0_ hx0); (have HQ1 := A0_ hx1); (have HQ2 := A0_ hx2); (obtain ⟨t, ht, htl⟩ := compare_at q c); (have HCM := A0_ ht); (have HTL := A0_ htl); clear hx0 hx1 hx2 hq ht htl hi0
       refine start_ (n := 30) (S := fun w' => w'.cell? ⟨gc, 0, none⟩ = some (.int .i64 c.f0) ∧ w'.cell? ⟨gc, 1, none⟩ = some (.int .i64 c.f1) ∧ w'.cell? ⟨gc, 2, none⟩ = some (.int .i64 c.f2) ∧ w'.cell? (adl.add ((i - 1) * 3)) = some (.int .i64 q.f0) ∧ w'.cell? ⟨(adl.add ((i - 1) * 3)).block, (adl.add ((i - 1) * 3)).off + 1, none⟩ = some (.int .i64 q.f1) ∧ w'.cell? ⟨(adl.add ((i - 1) * 3)).block, (adl.add ((i - 1) * 3)).off + 2, none⟩ = some (.int .i64 q.f2)) (ds := []) #[ff,ff,ff,ff,ff,ff,ff,ff,ff,ff,ff,ff,ff,ff,ff,ff,ff,ff,ff,ff,ff,ff,ff,ff,ff,ff,ff,ff,ff,ff] (by kernel_rfl) rfl rfl (⟨(cl_ HS 0 0 rfl).trans rfl, (cl_ HS 0 1 rfl).trans rfl, (cl_ HS 0 2 rfl).trans rfl, pw_cell_below HS.out.below HQ0.out, pw_cell_below HS.out.below HQ1.out, pw_cell_below HS.out.below HQ2.out⟩) (fun hHeld => ?_)
       refine with_tabW isoF.tab4 isoF.bits4 (fun HT_ HW_ => ?_)
       (generalize wx.drew = wD at HS hHeld ⊢); (refine on_ 0 (some 12) ?_); (refine tk_ 1 (some 13) ?_)
       refine o1_ 2 (some 14) (fun K hK => ?_)
       (refine gs_ Try.func101 #[.int .i64 c.f0] ?_); (refine (impl_isCoordinate.calls c.f0 true _ HB0.out).mono ?_); (rintro e wA11 ⟨rfl, hb⟩); (refine ⟨_, rfl, ?_⟩); (replace HS := A0_ (Sp.far HS.out hb.below)); clear hb
       refine hK.out _ _ (⟨(cl_ HS 0 0 rfl).trans rfl, (cl_ HS 0 1 rfl).trans rfl, (cl_ HS 0 2 rfl).trans rfl, pw_cell_below HS.out.below HQ0.out, pw_cell_below HS.out.below HQ1.out, pw_cell_below HS.out.below HQ2.out⟩) (fun hHeld => ?_)
       clear hK K; (refine nm_ (some 14) ?_); (refine on_ 3 (some 15) ?_); (refine on_ 4 (some 16) ?_); (refine on_ 5 (some 17) ?_); (refine tk_ 6 (some 18) ?_)
       refine o1_ 7 (some 19) (fun K hK => ?_)
       (refine gs_ Try.func101 #[.int .i64 c.f1] ?_); (refine (impl_isCoordinate.calls c.f1 true _ HB1.out).mono ?_); (rintro e wA12 ⟨rfl, hb⟩); (refine ⟨_, rfl, ?_⟩); (replace HS := A0_ (Sp.far HS.out hb.below)); clear hb
       refine hK.out _ _ (⟨(cl_ HS 0 0 rfl).trans rfl, (cl_ HS 0 1 rfl).trans rfl, (cl_ HS 0 2 rfl).trans rfl, pw_cell_below HS.out.below HQ0.out, pw_cell_below HS.out.below HQ1.out, pw_cell_below HS.out.below HQ2.out⟩) (fun hHeld => ?_)
       clear hK K; (refine nm_ (some 19) ?_); (refine on_ 8 (some 20) ?_); (refine on_ 9 (some 21) ?_); (refine on_ 10 (some 22) ?_); (refine on_ 11 (some 23) ?_); (refine tk_ 12 (some 24) ?_)
       refine o1_ 13 (some 25) (fun K hK => ?_)
       (refine gs_ Try.func101 #[.int .i64 c.f2] ?_); (refine (impl_isCoordinate.calls c.f2 true _ HB2.out).mono ?_); (rintro e wA13 ⟨rfl, hb⟩); (refine ⟨_, rfl, ?_⟩); (replace HS := A0_ (Sp.far HS.out hb.below)); clear hb
       refine hK.out _ _ (⟨(cl_ HS 0 0 rfl).trans rfl, (cl_ HS 0 1 rfl).trans rfl, (cl_ HS 0 2 rfl).trans rfl, pw_cell_below HS.out.below HQ0.out, pw_cell_below HS.out.below HQ1.out, pw_cell_below HS.out.below HQ2.out⟩) (fun hHeld => ?_)
       clear hK K; (refine nm_ (some 25) ?_); (refine on_ 14 (some 26) ?_); (refine on_ 15 (some 27) ?_); (refine on_ 16 (some 28) ?_); (refine on_ 17 (some 29) ?_); (refine on_ 18 (some 30) ?_); (refine on_ 19 (some 31) ?_); (refine on_ 20 (some 32) ?_); (refine on_ 21 (some 33) ?_); (refine on_ 22 (some 34) ?_); (refine on_ 23 (some 35) ?_); (refine tk_ 24 (some 36) ?_); (refine tk_ 25 (some 37) ?_)
       refine o1_ 26 (some 38) (fun K hK => ?_)
       (refine gs_ Try.func102 #[.agg #[.int .i64 q.f0, .int .i64 q.f1, .int .i64 q.f2], .agg #[.int .i64 c.f0, .int .i64 c.f1, .int .i64 c.f2]] ?_); (refine (impl_compareCubes.calls q.f0 q.f1 q.f2 c.f0 c.f1 c.f2 t _ HCM.out).mono ?_); (rintro e wA14 ⟨rfl, hb⟩); (refine ⟨_, rfl, ?_⟩); (replace HS := A0_ (Sp.far HS.out hb)); clear hb
       refine hK.out _ _ (⟨(cl_ HS 0 0 rfl).trans rfl, (cl_ HS 0 1 rfl).trans rfl, (cl_ HS 0 2 rfl).trans rfl, pw_cell_below HS.out.below HQ0.out, pw_cell_below HS.out.below HQ1.out, pw_cell_below HS.out.below HQ2.out⟩) (fun hHeld => ?_)
       clear hK K; (refine nm_ (some 38) ?_); (refine on_ 27 (some 39) ?_); (refine on_ 28 (some 40) ?_); (refine on_ 29 (some 41) ?_); (refine dn_ ?_)
       cases hls : lessC q c with
       | true =>
        (have HN := A0_ (HNX.out hls)); (have ht0 : decide (0 ≤ t) = false := by have h := HTL.out; rw [hls] at h; exact h); (have ht1 : (0 ≤ t) = False := eq_false (of_decide_eq_false ht0)); (have ht2 : (t < 0) = True := eq_true (by have := of_decide_eq_false ht0; omega)); clear hls; (rw [ht0]); go_wp2; (replace HS := A0_ (show Sp w [] _ from Sp.tail HS.out)); (go_roundg k1)
        case measure => omega
        case rel =>
         (rw [HW.out]); (exact ⟨i + 1, rfl, ⟨by have := HCI.out; omega, by have := HX.out; omega, HN.out⟩, HS⟩)
       | false =>
        (have HF := A0_ (HNO.out hls)); (have ht0 : decide (0 ≤ t) = true := by have h := HTL.out; rw [hls] at h; exact h); (have ht1 : (0 ≤ t) = True := eq_true (of_decide_eq_true ht0)); (have ht2 : (t < 0) = False := eq_false (by have := of_decide_eq_true ht0; omega)); clear hls; (rw [ht0]); go_wp2; go_ret; (exact ⟨by rw [HF.out]; rfl, HS.out.below⟩)
  ·(have ci0 : decide (i < l.length) = false := decide_eq_false ci); (have ci1 : (i < l.length) = False := eq_false ci); (have hi : i = l.length := by have := HX.out; omega); (have HF := A0_ (solP_end l (hi ▸ HX.out.2.2))); (have HF2 := A0_ (inR_len l.length)); clear ci hi; go_wp2
   ·go_ret; (exact ⟨by rw [HF.out]; unfold inR; rw [decide_eq_true (show (1 : Int) ≤ (l.length : Int) by omega), Bool.true_and]; rfl, HS.out.below⟩)
   ·go_ret; (exact ⟨by rw [HF.out]; unfold inR; rw [decide_eq_false (show ¬ (1 : Int) ≤ (l.length : Int) by omega), Bool.false_and]; rfl, HS.out.below⟩)
section
attribute [local go_sem] max2_int min2_int max_two min_two max_three min_three max_four min_four
def impl_cubesAround.f (a0_0 : Int) (a0_1 : Int) (a0_2 : Int) : Option ((List (S94))) := some (([(⟨a0_0, a0_1, wrap64 (a0_2 - 1)⟩ : S94), (⟨a0_0, wrap64 (a0_1 - 1), a0_2⟩ : S94), (⟨wrap64 (a0_0 - 1), a0_1, a0_2⟩ : S94), (⟨wrap64 (a0_0 + 1), a0_1, a0_2⟩ : S94), (⟨a0_0, wrap64 (a0_1 + 1), a0_2⟩ : S94), (⟨a0_0, a0_1, wrap64 (a0_2 + 1)⟩ : S94)] : List (S94)))
set_option maxHeartbeats 8000000 in
set_option maxRecDepth 100000 in
theorem impl_cubesAround.calls (a0_0 : Int) (a0_1 : Int) (a0_2 : Int) (r : List (S94)) (w : World) (h : impl_cubesAround.f a0_0 a0_1 a0_2 = some r) :
    Calls Try.prog 103 #[.agg #[.int .i64 a0_0, .int .i64 a0_1, .int .i64 a0_2]] w fun e w' => ∃ v0_ : Value, e = .returned (v0_) ∧ Kd.R k94 94 w' w.heap.size (fun _ => True) v0_ r ∧ Below w.heap.size w w' := by
 (have hu94 := Try.underlying94); (have HB := A0_ (Below.refl w.heap.size w)); (have H : (some (([(⟨a0_0, a0_1, wrap64 (a0_2 - 1)⟩ : S94), (⟨a0_0, wrap64 (a0_1 - 1), a0_2⟩ : S94), (⟨wrap64 (a0_0 - 1), a0_1, a0_2⟩ : S94), (⟨wrap64 (a0_0 + 1), a0_1, a0_2⟩ : S94), (⟨a0_0, wrap64 (a0_1 + 1), a0_2⟩ : S94), (⟨a0_0, a0_1, wrap64 (a0_2 + 1)⟩ : S94)] : List (S94)))) = some r := h); clear h; (obtain ⟨y329, hy329⟩ : ∃ y_ : List (S94), y_ = (([(⟨a0_0, a0_1, wrap64 (a0_2 - 1)⟩ : S94), (⟨a0_0, wrap64 (a0_1 - 1), a0_2⟩ : S94), (⟨wrap64 (a0_0 - 1), a0_1, a0_2⟩ : S94), (⟨wrap64 (a0_0 + 1), a0_1, a0_2⟩ : S94), (⟨a0_0, wrap64 (a0_1 + 1), a0_2⟩ : S94), (⟨a0_0, a0_1, wrap64 (a0_2 + 1)⟩ : S94)] : List (S94))) := ⟨_, rfl⟩); (replace H : (some y329) = some r := by first | (rw [hy329]; with_reducible exact H) | (have H2_ := (Option.bind_some _ _).symm.trans H; rw [hy329]; with_reducible exact H2_) | (have H2_ := (Option.bind_some _ _).symm.trans H; with_reducible exact H2_) | with_reducible exact H | (rw [hy329]; exact H) | exact H); (have Ny329 := A0_ hy329); clear hy329; (obtain rfl := Option.some.inj H); (go_enter Try.func103, Try.ntmps103)
 go_wp2_with (first | ((with_reducible refine gate_dst (N := 1) rfl ?_); refine be_ (N := 1) (cs := #[.int .i64 a0_0, .int .i64 a0_1, .int .i64 a0_2]) (t := 94) ?_; intro gb328 hg w2 hbox hb; have n0_ := A0_ (below_step bw_ hb); have n1_ := A0_ (hbox); have n2_ := A0_ ((by rw [hg]; exact (below_size bw_) : w.heap.size ≤ gb328)); have n3_ := A0_ ((by rw [hg]; exact (below_size bw_) : w.heap.size ≤ gb328)); clear HB; have HB := n0_; have BK328 := n1_; have GW328 := n2_; have GE328 := n3_; clear n0_ n1_ n2_ n3_; clear hb hbox hg; have hcz3_0 : w2.cell? ⟨gb328, 0, none⟩ = some (.int .i64 a0_0) := (blk_cell BK328.out 0).trans rfl; have hcz3_1 : w2.cell? ⟨gb328, 1, none⟩ = some (.int .i64 a0_1) := (blk_cell BK328.out 1).trans rfl; have hcz3_2 : w2.cell? ⟨gb328, 2, none⟩ = some (.int .i64 a0_2) := (blk_cell BK328.out 2).trans rfl; have hfz3_0 := blk_frozen BK328.out 0; have hfz3_1 := blk_frozen BK328.out 1; have hfz3_2 := blk_frozen BK328.out 2) | ((with_reducible refine gate_dst (N := 51) rfl ?_); refine Kd.R_lit k94 _ 94 ?hg (N := 51) ?hd (xs := ([(⟨a0_0, a0_1, wrap64 (a0_2 - 1)⟩ : S94), (⟨a0_0, wrap64 (a0_1 - 1), a0_2⟩ : S94), (⟨wrap64 (a0_0 - 1), a0_1, a0_2⟩ : S94), (⟨wrap64 (a0_0 + 1), a0_1, a0_2⟩ : S94), (⟨a0_0, wrap64 (a0_1 + 1), a0_2⟩ : S94), (⟨a0_0, a0_1, wrap64 (a0_2 + 1)⟩ : S94)] : List (S94))) (inner := [.int .i64 a0_0, .int .i64 a0_1, .int .i64 (wrap64 (a0_2 - 1)), .int .i64 a0_0, .int .i64 (wrap64 (a0_1 - 1)), .int .i64 a0_2, .int .i64 (wrap64 (a0_0 - 1)), .int .i64 a0_1, .int .i64 a0_2, .int .i64 (wrap64 (a0_0 + 1)), .int .i64 a0_1, .int .i64 a0_2, .int .i64 a0_0, .int .i64 (wrap64 (a0_1 + 1)), .int .i64 a0_2, .int .i64 a0_0, .int .i64 a0_1, .int .i64 (wrap64 (a0_2 + 1))]) (ok := fun _ => True) (okp := fun _ => True) ?hr ?hp (fun _ hk => hk) trivial (Below.refl _ _) (Nat.le_refl _) (by simp) ?_; (case hd => rfl); (case hg => rfl); (case hr => first | (go_simp; done) | (go_simp; rfl)); (case hp => exact (Reps.c3 (show Kd.M k94 _ _ _ (⟨a0_0, a0_1, wrap64 (a0_2 - 1)⟩ : S94) [.int .i64 a0_0, .int .i64 a0_1, .int .i64 (wrap64 (a0_2 - 1))] from (k94_mkM _ _ _ (⟨a0_0, a0_1, wrap64 (a0_2 - 1)⟩ : S94) )) (Reps.c3 (show Kd.M k94 _ _ _ (⟨a0_0, wrap64 (a0_1 - 1), a0_2⟩ : S94) [.int .i64 a0_0, .int .i64 (wrap64 (a0_1 - 1)), .int .i64 a0_2] from (k94_mkM _ _ _ (⟨a0_0, wrap64 (a0_1 - 1), a0_2⟩ : S94) )) (Reps.c3 (show Kd.M k94 _ _ _ (⟨wrap64 (a0_0 - 1), a0_1, a0_2⟩ : S94) [.int .i64 (wrap64 (a0_0 - 1)), .int .i64 a0_1, .int .i64 a0_2] from (k94_mkM _ _ _ (⟨wrap64 (a0_0 - 1), a0_1, a0_2⟩ : S94) )) (Reps.c3 (show Kd.M k94 _ _ _ (⟨wrap64 (a0_0 + 1), a0_1, a0_2⟩ : S94) [.int .i64 (wrap64 (a0_0 + 1)), .int .i64 a0_1, .int .i64 a0_2] from (k94_mkM _ _ _ (⟨wrap64 (a0_0 + 1), a0_1, a0_2⟩ : S94) )) (Reps.c3 (show Kd.M k94 _ _ _ (⟨a0_0, wrap64 (a0_1 + 1), a0_2⟩ : S94) [.int .i64 a0_0, .int .i64 (wrap64 (a0_1 + 1)), .int .i64 a0_2] from (k94_mkM _ _ _ (⟨a0_0, wrap64 (a0_1 + 1), a0_2⟩ : S94) )) (Reps.c3 (show Kd.M k94 _ _ _ (⟨a0_0, a0_1, wrap64 (a0_2 + 1)⟩ : S94) [.int .i64 a0_0, .int .i64 a0_1, .int .i64 (wrap64 (a0_2 + 1))] from (k94_mkM _ _ _ (⟨a0_0, a0_1, wrap64 (a0_2 + 1)⟩ : S94) )) (Reps.none _ _)))))))); intro v330 w4 ho5 hb hg_ hnew_; clear hg_ hnew_; (first | rw [← Ny329.out] at ho5 | (simp only [Int.reduceToNat] at ho5; rw [← Ny329.out] at ho5)); have n0_ := A0_ (Kd.R_lower (Kd.R_newB ho5 (g := gb328) (o := .cells #[.int .i64 a0_0, .int .i64 a0_1, .int .i64 a0_2] 94 (0, 0)) (bk_ BK328)) (below_size bx_)); have n1_ := A0_ (blk_below (g := gb328) (o := .cells #[.int .i64 a0_0, .int .i64 a0_1, .int .i64 a0_2] 94 (0, 0)) (bk_ BK328) hb); have n2_ := A0_ (below_step bx_ hb); clear BK328; clear HB; have HO331 := n0_; have BK328 := n1_; have HB := n2_; clear n0_ n1_ n2_; clear hb ho5))
 go_ret
 exact ⟨_, by first | rfl | (simp [errW_none, errW_some] <;> rfl) | (simp [*, errW_none, errW_some] <;> rfl), by (with_reducible repeat (first | apply Ra_ | apply Rn_ | apply Rd_)); exact Kd.R_mono HO331.out (fun _ hk => trivial), bx_⟩
end
section
attribute [local go_sem] max2_int min2_int max_two min_two max_three min_three max_four min_four
mutual
def impl_connectedCubes.l0 : Nat → List (S94) → List (S94) → Int → Option (Bool)
  | 0, _, _, _ => none
  | k + 1, x0, x3, x4 => if x4 < (x3.length : Int) then (if 0 ≤ x4 then ((impl_cubesAround.f ((rd_T94 x3 x4).f0) ((rd_T94 x3 x4).f1) ((rd_T94 x3 x4).f2)).bind fun t341 => (impl_connectedCubes.l1 k x0 x3 x4 t341 (t341.length : Int) 0)) else (none)) else (some ((x3.length : Int) == (x0.length : Int)))
def impl_connectedCubes.l1 : Nat → List (S94) → List (S94) → Int → List (S94) → Int → Int → Option (Bool)
  | 0, _, _, _, _, _, _ => none
  | k + 1, x0, x3, x4, x21, x22, x23 => if x23 < x22 then (if 0 ≤ x23 then (if x23 < (x21.length : Int) then ((impl_Cube_104.f k x0 ((rd_T94 x21 x23).f0) ((rd_T94 x21 x23).f1) ((rd_T94 x21 x23).f2)).bind fun t346 => (if t346 = true then ((impl_Cube_104.f k x3 ((rd_T94 x21 x23).f0) ((rd_T94 x21 x23).f1) ((rd_T94 x21 x23).f2)).bind fun t347 => (if t347 = true then (impl_connectedCubes.l1 k x0 x3 x4 x21 x22 (wrap64 (x23 + 1))) else (if x3.length < 5864062014805 then (impl_connectedCubes.l1 k x0 (x3 ++ [(⟨(rd_T94 x21 x23).f0, (rd_T94 x21 x23).f1, (rd_T94 x21 x23).f2⟩ : S94)]) x4 x21 x22 (wrap64 (x23 + 1))) else (none)))) else (impl_connectedCubes.l1 k x0 x3 x4 x21 x22 (wrap64 (x23 + 1))))) else (none)) else (none)) else (impl_connectedCubes.l0 k x0 x3 (wrap64 (x4 + 1)))
end
def impl_connectedCubes.f (k : Nat) (l0 : List (S94)) : Option (Bool) := if 0 < (l0.length : Int) then (impl_connectedCubes.l0 k l0 (([(⟨(rd_T94 l0 0).f0, (rd_T94 l0 0).f1, (rd_T94 l0 0).f2⟩ : S94)] : List (S94))) 0) else (none)
set_option maxHeartbeats 8000000 in
set_option maxRecDepth 100000 in
theorem impl_connectedCubes.calls (k : Nat) (A0 : Option Addr) (c0 : Nat) (l0 : List (S94)) (r : Bool) (w : World) (hr0 : Kd.C k94 w A0 l0.length l0) (hc0 : l0.length ≤ c0) (h : impl_connectedCubes.f k l0 = some r) :
    Calls Try.prog 73 #[.slice A0 l0.length c0] w fun e w' => e = .returned (.bool r) ∧ Below w.heap.size w w' := by
 (have hu94 := Try.underlying94); (have HR0 := A0_ hr0); (have HC0 := A0_ hc0); clear hr0 hc0; (have HB := A0_ (Below.refl w.heap.size w)); (have H : (if 0 < (l0.length : Int) then (impl_connectedCubes.l0 k l0 (([(⟨(rd_T94 l0 0).f0, (rd_T94 l0 0).f1, (rd_T94 l0 0).f2⟩ : S94)] : List (S94))) 0) else (none)) = some r := h); clear h; (by_cases c2 : 0 < (l0.length : Int))
 ·(rw [if_pos c2] at H); (have c2b0 : decide (0 < (l0.length : Int)) = true := decide_eq_true c2); (have c2b1 : decide (0 < l0.length) = true := decide_eq_true (by omega)); clear c2; (obtain ⟨y337, hy337⟩ : ∃ y_ : List (S94), y_ = (([(⟨(rd_T94 l0 0).f0, (rd_T94 l0 0).f1, (rd_T94 l0 0).f2⟩ : S94)] : List (S94))) := ⟨_, rfl⟩); (replace H : (impl_connectedCubes.l0 k l0 y337 0) = some r := by first | (rw [hy337]; with_reducible exact H) | (have H2_ := (Option.bind_some _ _).symm.trans H; rw [hy337]; with_reducible exact H2_) | (have H2_ := (Option.bind_some _ _).symm.trans H; with_reducible exact H2_) | with_reducible exact H | (rw [hy337]; exact H) | exact H); (have Ny337 := A0_ hy337); clear hy337; (have H' := A0_ H); clear H; (have p336 : 0 ≤ (0 : Int) := (by omega)); (have q336 : 0 < (l0.length : Int) := of_decide_eq_true as_); (obtain ⟨ad336, e336, hx336_0, hx336_1, hx336_2⟩ := at_T94 HR0.out 0 p336 q336); (cases e336); (have qi336 : (0 < l0.length) = True := eq_true (by omega)); ((try rw [show ((0 : Int)).toNat = 0 from rfl] at hx336_0)); ((try rw [show 0 * 3 = 0 from rfl] at hx336_0)); ((try rw [Addr.add_zero'] at hx336_0)); ((try rw [show ((0 : Int)).toNat = 0 from rfl] at hx336_1)); ((try rw [show 0 * 3 = 0 from rfl] at hx336_1)); ((try rw [Addr.add_zero'] at hx336_1)); ((try rw [show ((0 : Int)).toNat = 0 from rfl] at hx336_2)); ((try rw [show 0 * 3 = 0 from rfl] at hx336_2)); ((try rw [Addr.add_zero'] at hx336_2)); (replace p336 := eq_true p336); (replace q336 := eq_true q336); (go_enter Try.func73, Try.ntmps73)
  go_wp2_with (first | ((with_reducible refine gate_dst (N := 10) rfl ?_); refine Kd.R_lit k94 _ 94 ?hg (N := 10) ?hd (xs := ([(⟨(rd_T94 l0 0).f0, (rd_T94 l0 0).f1, (rd_T94 l0 0).f2⟩ : S94)] : List (S94))) (inner := [.int .i64 ((rd_T94 l0 0).f0), .int .i64 ((rd_T94 l0 0).f1), .int .i64 ((rd_T94 l0 0).f2)]) (ok := fun _ => True) (okp := fun _ => True) ?hr ?hp (fun _ hk => hk) trivial (Below.refl _ _) (Nat.le_refl _) (by simp) ?_; (case hd => rfl); (case hg => rfl); (case hr => first | (go_simp; done) | (go_simp; rfl)); (case hp => exact (Reps.c3 (show Kd.M k94 _ _ _ (⟨(rd_T94 l0 0).f0, (rd_T94 l0 0).f1, (rd_T94 l0 0).f2⟩ : S94) [.int .i64 ((rd_T94 l0 0).f0), .int .i64 ((rd_T94 l0 0).f1), .int .i64 ((rd_T94 l0 0).f2)] from (k94_mkM _ _ _ (⟨(rd_T94 l0 0).f0, (rd_T94 l0 0).f1, (rd_T94 l0 0).f2⟩ : S94) )) (Reps.none _ _))); intro v338 w3 ho4 hb hg_ hnew_; clear hg_ hnew_; (first | rw [← Ny337.out] at ho4 | (simp only [Int.reduceToNat] at ho4; rw [← Ny337.out] at ho4)); have n0_ := A0_ (Kd.R_lower ho4 (below_size bw_)); have n1_ := A0_ (below_step bw_ hb); clear HB; have HO339 := n0_; have HB := n1_; clear n0_ n1_; clear hb ho4))
  go_loopg [3, 4] k (fun kq v3 v4 w' => ∃ (x3_1 : List (S94)) (x4_1 : Int), v4 = .int .i64 x4_1 ∧ Aside0 (impl_connectedCubes.l0 kq l0 x3_1 x4_1 = some r) ∧ Aside0 (kq ≤ k) ∧ Aside0 (Kd.R k94 94 w' w.heap.size (fun _ => True) v3 x3_1) ∧ Aside0 (Below w.heap.size w w'))
  case atStart => exact ⟨(y337), (0), (by first | rfl | (simp; done) | (simp [*]; done)), H', ⟨Nat.le_refl _⟩, ⟨by (with_reducible repeat (first | apply Ra_ | apply Rn_ | apply Rd_)); exact HO339.out⟩, ⟨by repeat (first | (with_reducible first | exact HB.out | apply ba_ | apply bn_ | apply bd_) | exact HB.out)⟩⟩
  case round =>
   clear H'; (try clear c2); (try clear c2b0); (try clear c2b1); (try clear p2); (try clear c3); (try clear p3); (try clear q3); (try clear hx3); (try clear qi3); (try clear hx336_0); (try clear hx336_1); (try clear hx336_2); (try clear p336); (try clear q336); (obtain ⟨x3_1, x4_1, rfl, HA, HK1, HO_3, HB⟩ := hrel)
   cases gk with
   | zero => exact absurd HA.out (by simp [impl_connectedCubes.l0])
   | succ k1 =>
    (have H := HA.out); clear HA; (simp only [impl_connectedCubes.l0] at H); (by_cases c5 : x4_1 < (x3_1.length : Int))
    ·(rw [if_pos c5] at H); (have c5b0 : decide (x4_1 < (x3_1.length : Int)) = true := decide_eq_true c5); clear c5; (by_cases c6 : 0 ≤ x4_1)
     ·(rw [if_pos c6] at H); (have c6b0 : decide (0 ≤ x4_1) = true := decide_eq_true c6); clear c6; (replace H := Option.bind_eq_some_iff.mp H); (obtain ⟨t341, A70, H⟩ := H); (try dsimp only at H); (have A7 := A0_ A70); clear A70; (have H0_ := A0_ H); clear H; (obtain ⟨Ao8, co8, eo8⟩ := Kd.R_slice HO_3.out); subst eo8; (have p340 : 0 ≤ (x4_1 : Int) := of_decide_eq_true as_); (have q340 : x4_1 < (x3_1.length : Int) := of_decide_eq_true as_); (obtain ⟨ad340, e340, hx340_0, hx340_1, hx340_2⟩ := at_T94 (Kd.R_reads' HO_3.out).2.2 x4_1 p340 q340); (cases e340); (replace p340 := eq_true p340); (replace q340 := eq_true q340); (go_wp2_with (first | ((with_reducible refine gate_callee (f := 103) rfl ?_); refine gl_ (some 21) Try.func103 #[.agg #[.int .i64 ((rd_T94 x3_1 x4_1).f0), .int .i64 ((rd_T94 x3_1 x4_1).f1), .int .i64 ((rd_T94 x3_1 x4_1).f2)]] ?_; (with_reducible refine (impl_cubesAround.calls ((rd_T94 x3_1 x4_1).f0) ((rd_T94 x3_1 x4_1).f1) ((rd_T94 x3_1 x4_1).f2) t341 _ A7.out).mono ?_); rintro e w9 ⟨v342, rfl, ho0, hb⟩; refine ⟨_, rfl, ?_⟩; have n0_ := A0_ (Kd.R_elder' (by (with_reducible repeat (first | apply Ra_ | apply Rn_ | apply Rd_)); exact HO_3.out) (Kd.R_base ho0) hb); have n1_ := A0_ (Kd.R_lower (Kd.R_new' ho0 (Kd.R_lt (by (with_reducible repeat (first | apply Ra_ | apply Rn_ | apply Rd_)); exact HO_3.out))) (below_size bw_)); have n2_ := A0_ (below_step bw_ hb); clear HO_3; clear HB; have HO_3 := n0_; have HO343 := n1_; have HB := n2_; clear n0_ n1_ n2_; (try clear hb); (try clear hb2); (try clear hk); (try clear hi); (try clear ho0); refine Stop0.out ?_))); (refine Stop0.mk ?_); (have H := H0_.out); clear H0_; (have H' := A0_ H); clear H; (obtain ⟨Ao10, co10, eo10⟩ := Kd.R_slice HO343.out); subst eo10; go_wp2
      go_loopg [3, 23] k1 (fun kq v3 v23 w' => ∃ (x3_2 : List (S94)) (x23_2 : Int), v23 = .int .i64 x23_2 ∧ Aside0 (impl_connectedCubes.l1 kq l0 x3_2 x4_1 t341 (t341.length : Int) x23_2 = some r) ∧ Aside0 (kq ≤ k1) ∧ Aside0 (Kd.R k94 94 w' w.heap.size (fun k_ => some k_ ≠ ((.slice Ao10 t341.length co10) : Value).ownBlock) v3 x3_2) ∧ Aside0 (Kd.R k94 94 w' w.heap.size (fun k_ => some k_ ≠ (v3 : Value).ownBlock) (.slice Ao10 t341.length co10) t341) ∧ Aside0 (Below w.heap.size w w'))
      case atStart => exact ⟨(x3_1), (0), (by first | rfl | (simp; done) | (simp [*]; done)), H', ⟨Nat.le_refl _⟩, ⟨by (with_reducible repeat (first | apply Ra_ | apply Rn_ | apply Rd_)); exact Kd.R_mono HO_3.out (fun _ hk => hk.2)⟩, ⟨by (with_reducible repeat (first | apply Ra_ | apply Rn_ | apply Rd_)); exact Kd.R_mono HO343.out (fun _ hk => hk.2)⟩, ⟨by repeat (first | (with_reducible first | exact HB.out | apply ba_ | apply bn_ | apply bd_) | exact HB.out)⟩⟩
      case round =>
       clear H'; (try clear c1); (try clear c2); (try clear c2b0); (try clear c2b1); (try clear p2); (try clear c3); (try clear p3); (try clear q3); (try clear hx3); (try clear qi3); (try clear c5); (try clear c5b0); (try clear c6); (try clear c6b0); (try clear c7); (try clear c10); (try clear hx336_0); (try clear hx336_1); (try clear hx336_2); (try clear hx340_0); (try clear hx340_1); (try clear hx340_2); (try clear p2); (try clear p3); (try clear p336); (try clear p340); (try clear q3); (try clear q336); (try clear q340); (obtain ⟨x3_2, x23_2, rfl, HA, HK2, HO_3, HO_21, HB⟩ := hrel)
       cases gk with
       | zero => exact absurd HA.out (by simp [impl_connectedCubes.l1])
       | succ k2 =>
        (have H := HA.out); clear HA; (simp only [impl_connectedCubes.l1] at H); (by_cases c11 : x23_2 < (t341.length : Int))
        ·(rw [if_pos c11] at H); (have c11b0 : decide (x23_2 < (t341.length : Int)) = true := decide_eq_true c11); clear c11; (by_cases c12 : 0 ≤ x23_2)
         ·(rw [if_pos c12] at H); (have c12b0 : decide (0 ≤ x23_2) = true := decide_eq_true c12); clear c12; (by_cases c13 : x23_2 < (t341.length : Int))
          ·(rw [if_pos c13] at H); (have c13b0 : decide (x23_2 < (t341.length : Int)) = true := decide_eq_true c13); clear c13; (replace H := Option.bind_eq_some_iff.mp H); (obtain ⟨t346, A140, H⟩ := H); (try dsimp only at H); (have A14 := A0_ A140); clear A140; (have H0_ := A0_ H); clear H; (have p344 : 0 ≤ (x23_2 : Int) := of_decide_eq_true as_); (have q344 : x23_2 < (t341.length : Int) := of_decide_eq_true as_); (obtain ⟨ad344, e344, hx344_0, hx344_1, hx344_2⟩ := at_T94 (Kd.R_reads' HO_21.out).2.2 x23_2 p344 q344); (cases e344); (replace p344 := eq_true p344); (replace q344 := eq_true q344)
           go_wp2_with (first | ((with_reducible refine gate_dst (N := 6) rfl ?_); refine be_ (N := 6) (cs := #[.int .i64 0, .int .i64 0, .int .i64 0]) (t := 94) ?_; intro gb345 hg w15 hbox hb; have n0_ := A0_ (Kd.R_below (Kd.R_elderB (by (with_reducible repeat (first | apply Ra_ | apply Rn_ | apply Rd_)); exact HO_3.out) gb345 (Nat.le_of_eq hg.symm)) hb); have n1_ := A0_ (Kd.R_below (Kd.R_elderB (by (with_reducible repeat (first | apply Ra_ | apply Rn_ | apply Rd_)); exact HO_21.out) gb345 (Nat.le_of_eq hg.symm)) hb); have n2_ := A0_ (below_step bw_ hb); have n3_ := A0_ (hbox); have n4_ := A0_ ((by rw [hg]; exact (below_size bw_) : w.heap.size ≤ gb345)); have n5_ := A0_ ((by rw [hg]; exact (below_size bw_) : w.heap.size ≤ gb345)); clear HO_3; clear HO_21; clear HB; have HO_3 := n0_; have HO_21 := n1_; have HB := n2_; have BK345 := n3_; have GW345 := n4_; have GE345 := n5_; clear n0_ n1_ n2_ n3_ n4_ n5_; clear hb hbox hg; have hcz16_0 : w15.cell? ⟨gb345, 0, none⟩ = some (.int .i64 0) := (blk_cell BK345.out 0).trans rfl; have hcz16_1 : w15.cell? ⟨gb345, 1, none⟩ = some (.int .i64 0) := (blk_cell BK345.out 1).trans rfl; have hcz16_2 : w15.cell? ⟨gb345, 2, none⟩ = some (.int .i64 0) := (blk_cell BK345.out 2).trans rfl; have hfz16_0 := blk_frozen BK345.out 0; have hfz16_1 := blk_frozen BK345.out 1; have hfz16_2 := blk_frozen BK345.out 2) | ((with_reducible refine gate_callee (f := 104) rfl ?_); refine gl_ (some 29) Try.func104 #[.slice (some ad336) l0.length c0, .agg #[.int .i64 ((rd_T94 t341 x23_2).f0), .int .i64 ((rd_T94 t341 x23_2).f1), .int .i64 ((rd_T94 t341 x23_2).f2)]] ?_; (with_reducible refine (impl_Cube_104.calls k2 _ _ l0 ((rd_T94 t341 x23_2).f0) ((rd_T94 t341 x23_2).f1) ((rd_T94 t341 x23_2).f2) t346 _ ?side1 ?side2 A14.out).mono ?_); (case side1 => exact Kd.C_below HR0.out bx_); (case side2 => exact HC0.out); rintro e w17 ⟨rfl, hb⟩; refine ⟨_, rfl, ?_⟩; have n0_ := A0_ (Kd.R_below (by (with_reducible repeat (first | apply Ra_ | apply Rn_ | apply Rd_)); exact (Kd.R_mono (Kd.R_far (p := ⟨gb345, 2, none⟩) (Kd.R_far (p := ⟨gb345, 1, none⟩) (Kd.R_far (p := ⟨gb345, 0, none⟩) (Kd.R_mono HO_3.out (fun k_ hk => (⟨hk, hk.2⟩ : _ ∧ k_ ≠ gb345))) (fun _ hk => hk.2) (.int .i64 ((rd_T94 t341 x23_2).f0))) (fun _ hk => hk.2) (.int .i64 ((rd_T94 t341 x23_2).f1))) (fun _ hk => hk.2) (.int .i64 ((rd_T94 t341 x23_2).f2))) (fun _ h_ => h_.1))) hb); have n1_ := A0_ (Kd.R_below (by (with_reducible repeat (first | apply Ra_ | apply Rn_ | apply Rd_)); exact (Kd.R_mono (Kd.R_far (p := ⟨gb345, 2, none⟩) (Kd.R_far (p := ⟨gb345, 1, none⟩) (Kd.R_far (p := ⟨gb345, 0, none⟩) (Kd.R_mono HO_21.out (fun k_ hk => (⟨hk, hk.2⟩ : _ ∧ k_ ≠ gb345))) (fun _ hk => hk.2) (.int .i64 ((rd_T94 t341 x23_2).f0))) (fun _ hk => hk.2) (.int .i64 ((rd_T94 t341 x23_2).f1))) (fun _ hk => hk.2) (.int .i64 ((rd_T94 t341 x23_2).f2))) (fun _ h_ => h_.1))) hb); have n2_ := A0_ (blk_below (g := gb345) (o := .cells #[.int .i64 ((rd_T94 t341 x23_2).f0), .int .i64 ((rd_T94 t341 x23_2).f1), .int .i64 ((rd_T94 t341 x23_2).f2)] 94 (0, 0)) (by (with_reducible repeat (first | apply gn_ | apply gd_ | apply ga_)); refine blk_put (cs := #[.int .i64 ((rd_T94 t341 x23_2).f0), .int .i64 ((rd_T94 t341 x23_2).f1), .int .i64 0]) ?_ 2 _ rfl; (with_reducible repeat (first | apply gn_ | apply gd_ | apply ga_)); refine blk_put (cs := #[.int .i64 ((rd_T94 t341 x23_2).f0), .int .i64 0, .int .i64 0]) ?_ 1 _ rfl; (with_reducible repeat (first | apply gn_ | apply gd_ | apply ga_)); refine blk_put (cs := #[.int .i64 0, .int .i64 0, .int .i64 0]) ?_ 0 _ rfl; exact bk_ BK345) hb); have n3_ := A0_ (below_step bx_ hb); clear HO_3; clear HO_21; clear BK345; clear HB; have HO_3 := n0_; have HO_21 := n1_; have BK345 := n2_; have HB := n3_; clear n0_ n1_ n2_ n3_; (try clear hb); (try clear hb2); (try clear hk); (try clear hi); refine Stop0.out ?_))
           (refine Stop0.mk ?_); (have H := H0_.out); clear H0_; (by_cases c18 : t346 = true)
           ·subst c18; (have H1 := H); (rw [if_pos rfl] at H1); clear H; (have H := H1); clear H1; (replace H := Option.bind_eq_some_iff.mp H); (obtain ⟨t347, A190, H⟩ := H); (try dsimp only at H); (have A19 := A0_ A190); clear A190; (have H0_ := A0_ H); clear H; (have hcz20_0 : w17.cell? ⟨gb345, 0, none⟩ = some (.int .i64 ((rd_T94 t341 x23_2).f0)) := (blk_cell BK345.out 0).trans rfl); (have hcz20_1 : w17.cell? ⟨gb345, 1, none⟩ = some (.int .i64 ((rd_T94 t341 x23_2).f1)) := (blk_cell BK345.out 1).trans rfl); (have hcz20_2 : w17.cell? ⟨gb345, 2, none⟩ = some (.int .i64 ((rd_T94 t341 x23_2).f2)) := (blk_cell BK345.out 2).trans rfl); (have hfz20_0 := blk_frozen BK345.out 0); (have hfz20_1 := blk_frozen BK345.out 1); (have hfz20_2 := blk_frozen BK345.out 2); (obtain ⟨Ao21, co21, eo21⟩ := Kd.R_slice HO_3.out); subst eo21; (go_wp2_with (first | (go_at_call 104; (with_reducible refine (impl_Cube_104.calls k2 _ _ x3_2 ((rd_T94 t341 x23_2).f0) ((rd_T94 t341 x23_2).f1) ((rd_T94 t341 x23_2).f2) t347 _ ?side1 ?side2 A19.out).mono ?_); (case side1 => exact kc_ (Kd.R_reads' HO_3.out).2.2); (case side2 => exact (Kd.R_reads' HO_3.out).2.1); rintro e w22 ⟨rfl, hb⟩; have n0_ := A0_ (Kd.R_below (by (with_reducible repeat (first | apply Ra_ | apply Rn_ | apply Rd_)); exact HO_3.out) hb); have n1_ := A0_ (Kd.R_below (by (with_reducible repeat (first | apply Ra_ | apply Rn_ | apply Rd_)); exact HO_21.out) hb); have n2_ := A0_ (blk_below (g := gb345) (o := .cells #[.int .i64 ((rd_T94 t341 x23_2).f0), .int .i64 ((rd_T94 t341 x23_2).f1), .int .i64 ((rd_T94 t341 x23_2).f2)] 94 (0, 0)) (bk_ BK345) hb); have n3_ := A0_ (below_step bx_ hb); clear HO_3; clear HO_21; clear BK345; clear HB; have HO_3 := n0_; have HO_21 := n1_; have BK345 := n2_; have HB := n3_; clear n0_ n1_ n2_ n3_; (try clear hb); (try clear hb2); (try clear hk); (try clear hi); refine Stop0.out ?_))); (refine Stop0.mk ?_); (have H := H0_.out); clear H0_; (by_cases c23 : t347 = true)
            ·subst c23; (have H1 := H); (rw [if_pos rfl] at H1); clear H; (have H := H1); clear H1; (have H' := A0_ H); clear H; go_wp2; (go_roundg k2)
             case measure => have := HK1.out; have := HK2.out; omega
             case rel => exact ⟨(x3_2), (wrap64 (x23_2 + 1)), (by first | rfl | (simp; done) | (simp [*]; done)), H', ⟨by have := HK1.out; have := HK2.out; omega⟩, ⟨by (with_reducible repeat (first | apply Ra_ | apply Rn_ | apply Rd_)); exact Kd.R_mono HO_3.out (fun _ hk => hk.1)⟩, ⟨by (with_reducible repeat (first | apply Ra_ | apply Rn_ | apply Rd_)); exact Kd.R_mono HO_21.out (fun _ hk => hk.1)⟩, ⟨by repeat (first | (with_reducible first | exact HB.out | apply ba_ | apply bn_ | apply bd_ | refine below_set ?_ GE345.out) | exact HB.out)⟩⟩
            ·(replace c23 := Bool.eq_false_iff.mpr c23); subst c23; (have H1 : (if x3_2.length < 5864062014805 then (impl_connectedCubes.l1 k2 l0 (x3_2 ++ [(⟨(rd_T94 t341 x23_2).f0, (rd_T94 t341 x23_2).f1, (rd_T94 t341 x23_2).f2⟩ : S94)]) x4_1 t341 (t341.length : Int) (wrap64 (x23_2 + 1))) else (none)) = some r := by rw [if_neg (show ¬ (false = true) by decide)] at H; exact H); clear H; (have H := H1); clear H1; (by_cases c24 : x3_2.length < 5864062014805)
             ·(rw [if_pos c24] at H); (have LMc24 := A0_ c24); clear c24; (obtain ⟨y348, hy348⟩ : ∃ y_ : List (S94), y_ = (x3_2 ++ [(⟨(rd_T94 t341 x23_2).f0, (rd_T94 t341 x23_2).f1, (rd_T94 t341 x23_2).f2⟩ : S94)]) := ⟨_, rfl⟩); (replace H : (impl_connectedCubes.l1 k2 l0 y348 x4_1 t341 (t341.length : Int) (wrap64 (x23_2 + 1))) = some r := by first | (rw [hy348]; with_reducible exact H) | (have H2_ := (Option.bind_some _ _).symm.trans H; rw [hy348]; with_reducible exact H2_) | (have H2_ := (Option.bind_some _ _).symm.trans H; with_reducible exact H2_) | with_reducible exact H | (rw [hy348]; exact H) | exact H); (have Ny348 := A0_ hy348); clear hy348; (have H' := A0_ H); clear H; (have hcz25_0 : w22.cell? ⟨gb345, 0, none⟩ = some (.int .i64 ((rd_T94 t341 x23_2).f0)) := (blk_cell BK345.out 0).trans rfl); (have hcz25_1 : w22.cell? ⟨gb345, 1, none⟩ = some (.int .i64 ((rd_T94 t341 x23_2).f1)) := (blk_cell BK345.out 1).trans rfl); (have hcz25_2 : w22.cell? ⟨gb345, 2, none⟩ = some (.int .i64 ((rd_T94 t341 x23_2).f2)) := (blk_cell BK345.out 2).trans rfl); (have hfz25_0 := blk_frozen BK345.out 0); (have hfz25_1 := blk_frozen BK345.out 1); (have hfz25_2 := blk_frozen BK345.out 2)
              go_wp2_with (first | ((with_reducible refine gate_builtin (b := .append) (xs := #[.tmp 36, .tmp 38]) rfl ?_); at_builtin; refine Kd.R_append k94 (w0 := w) w.heap.size rfl (.tmp 36) (.tmp 38) 35 94 (.agg #[(.int .i64 0), (.int .i64 0), (.int .i64 0)]) 24 rfl Try.underlying35 info94 rfl (by decide) (by omega) (.slice Ao21 x3_2.length co21) x3_2 (⟨(rd_T94 t341 x23_2).f0, (rd_T94 t341 x23_2).f1, (rd_T94 t341 x23_2).f2⟩ : S94) [.int .i64 ((rd_T94 t341 x23_2).f0), .int .i64 ((rd_T94 t341 x23_2).f1), .int .i64 ((rd_T94 t341 x23_2).f2)] (fun k_ => some k_ ≠ (.slice (some ad344) t341.length co10 : Value).ownBlock ∧ k_ ≠ gb345) (fun _ => False) rfl rfl ?aP (fun _ hk => hk.elim) ?aF ?aO ?aB ?aS ?aL ?_; (case aP => exact k94_mkM _ _ _ (⟨(rd_T94 t341 x23_2).f0, (rd_T94 t341 x23_2).f1, (rd_T94 t341 x23_2).f2⟩ : S94)); (case aB => exact bx_); (case aF => exact (fun k_ hk => ⟨Kd.fresh' (Kd.R_lt (by (with_reducible repeat (first | apply Ra_ | apply Rn_ | apply Rd_)); exact HO_21.out)) k_ hk, Kd.freshB (g := gb345) (o := .cells #[.int .i64 ((rd_T94 t341 x23_2).f0), .int .i64 ((rd_T94 t341 x23_2).f1), .int .i64 ((rd_T94 t341 x23_2).f2)] 94 (0, 0)) (bk_ BK345) k_ hk⟩)); (case aO => exact (by (with_reducible repeat (first | apply Ra_ | apply Rn_ | apply Rd_)); exact HO_3.out)); (case aS => exact (below_size bx_)); (case aL => have := LMc24.out; omega); intro v349 w26 ho hb hg hat; rw [← Ny348.out] at ho; have n0_ := A0_ (Kd.R_after (ok := (fun k_ => k_ ≠ gb345)) (by (with_reducible repeat (first | apply Ra_ | apply Rn_ | apply Rd_)); exact Kd.R_mono HO_21.out (fun _ hk => ⟨hk.2, hk.1⟩)) hg hat); have n1_ := A0_ (blk_grown (g := gb345) (o := .cells #[.int .i64 ((rd_T94 t341 x23_2).f0), .int .i64 ((rd_T94 t341 x23_2).f1), .int .i64 ((rd_T94 t341 x23_2).f2)] 94 (0, 0)) (bk_ BK345) hg (Kd.R_away HO_3.out (fun _ hk => hk.2))); have n2_ := A0_ (hb); have n3_ := A0_ (ho); clear HO_21; clear BK345; clear HB; clear HO_3; have HO_21 := n0_; have BK345 := n1_; have HB := n2_; have HO350 := n3_; clear n0_ n1_ n2_ n3_; clear ho hb hg hat))
              (go_roundg k2)
              case measure => have := HK1.out; have := HK2.out; omega
              case rel => exact ⟨(y348), (wrap64 (x23_2 + 1)), (by first | rfl | (simp; done) | (simp [*]; done)), H', ⟨by have := HK1.out; have := HK2.out; omega⟩, ⟨by (with_reducible repeat (first | apply Ra_ | apply Rn_ | apply Rd_)); exact Kd.R_mono HO350.out (fun _ hk => hk.1)⟩, ⟨by (with_reducible repeat (first | apply Ra_ | apply Rn_ | apply Rd_)); exact Kd.R_mono HO_21.out (fun _ hk => hk.2)⟩, ⟨by repeat (first | (with_reducible first | exact HB.out | apply ba_ | apply bn_ | apply bd_ | refine below_set ?_ GE345.out) | exact HB.out)⟩⟩
             ·(rw [if_neg c24] at H); (exact absurd H (by simp))
           ·(replace c18 := Bool.eq_false_iff.mpr c18); subst c18; (have H1 : (impl_connectedCubes.l1 k2 l0 x3_2 x4_1 t341 (t341.length : Int) (wrap64 (x23_2 + 1))) = some r := by rw [if_neg (show ¬ (false = true) by decide)] at H; exact H); clear H; (have H := H1); clear H1; (have H' := A0_ H); clear H; go_wp2; (go_roundg k2)
            case measure => have := HK1.out; have := HK2.out; omega
            case rel => exact ⟨(x3_2), (wrap64 (x23_2 + 1)), (by first | rfl | (simp; done) | (simp [*]; done)), H', ⟨by have := HK1.out; have := HK2.out; omega⟩, ⟨by (with_reducible repeat (first | apply Ra_ | apply Rn_ | apply Rd_)); exact Kd.R_mono HO_3.out (fun _ hk => hk.1)⟩, ⟨by (with_reducible repeat (first | apply Ra_ | apply Rn_ | apply Rd_)); exact Kd.R_mono HO_21.out (fun _ hk => hk.1)⟩, ⟨by repeat (first | (with_reducible first | exact HB.out | apply ba_ | apply bn_ | apply bd_ | refine below_set ?_ GE345.out) | exact HB.out)⟩⟩
          ·(rw [if_neg c13] at H); (exact absurd H (by simp))
         ·(rw [if_neg c12] at H); (exact absurd H (by simp))
        ·(rw [if_neg c11] at H); (have c11b0 : decide (x23_2 < (t341.length : Int)) = false := decide_eq_false c11); clear c11; (have H' := A0_ H); clear H; go_wp2; (go_roundg k2)
         case measure => have := HK1.out; have := HK2.out; omega
         case rel => exact ⟨(x3_2), (wrap64 (x4_1 + 1)), (by first | rfl | (simp; done) | (simp [*]; done)), H', ⟨by have := HK1.out; have := HK2.out; omega⟩, ⟨by (with_reducible repeat (first | apply Ra_ | apply Rn_ | apply Rd_)); exact Kd.R_mono HO_3.out (fun _ hk => trivial)⟩, ⟨by repeat (first | (with_reducible first | exact HB.out | apply ba_ | apply bn_ | apply bd_) | exact HB.out)⟩⟩
     ·(rw [if_neg c6] at H); (exact absurd H (by simp))
    ·(rw [if_neg c5] at H); (have c5b0 : decide (x4_1 < (x3_1.length : Int)) = false := decide_eq_false c5); clear c5; (obtain rfl := Option.some.inj H); (obtain ⟨Ao27, co27, eo27⟩ := Kd.R_slice HO_3.out); subst eo27; go_wp2; go_ret; (exact ⟨er_, bx_⟩)
 ·(rw [if_neg c2] at H); (exact absurd H (by simp))
end
def partOk (sol con : List Cb → Bool) (p : List Cb) : Bool := sol p && (con p && !p.any (fun c => !inCb c 0 7))
def isAsmP (sol con : List Cb → Bool) (parts : List (List Cb)) : Bool := (decide (2 ≤ parts.length) && decide (parts.length ≤ 4)) && (parts.all (partOk sol con) && clearP parts (zerosC parts.length))
set_option maxHeartbeats 1000000 in
set_option maxRecDepth 100000 in
theorem in7_pred (w : World) : PredC w 75 #[] (fun c => !inCb c 0 7) := by
 refine ⟨_, Try.func75, by kernel_rfl, by kernel_rfl, ?_⟩
 intro c w' hb
 have hu69 := Try.underlying94
 have HS := A0_ (Sp.start w')
 have HIN := A0_ (inCube_eq c 0 7)
 dsimp only
 generalize inCb c 0 7 = b at HIN ⊢
 clear hb
 show Calls Try.prog 75 #[vC c] w' _
 go_enter Try.func75, Try.ntmps75
 go_wp2_with (first
  | ((with_reducible refine gate_dst (N := 1) rfl ?_); refine be_ (N := 1) (cs := #[.int .i64 c.f0, .int .i64 c.f1, .int .i64 c.f2]) (t := 94) ?_; intro gc hgb_ wb_ hcb_ hbb_; replace HS := A0_ (Sp.boxed HS.out hgb_ hcb_ hbb_); clear hgb_ hcb_ hbb_; have hc0 := (cl_ HS 0 0 rfl).trans rfl; have hc1 := (cl_ HS 0 1 rfl).trans rfl; have hc2 := (cl_ HS 0 2 rfl).trans rfl)
  | (go_at_call 76; refine (impl_inCube.calls c.f0 c.f1 c.f2 0 7 b _ HIN.out).mono ?_; rintro e wc_ ⟨rfl, hb_⟩; replace HS := A0_ (Sp.far HS.out hb_); clear hb_ hc0 hc1 hc2))
 go_ret
 exact ⟨rfl, HS.out.below⟩
def isAsmF.T9 : Bool × List (List Nat × List Nat) := (true, [([], []), ([0], [0]), ([], []), ([2], [2]), ([3], [3]), ([4, 4], [4]), ([1, 5, 1], [1, 5]), ([6, 6, 0, 1, 2, 3, 4, 5, 6], [6])])
def isAsmF.B9 : List Nat := [0, 1, 0, 4, 12, 28, 63, 127]
theorem isAsmF.tab9 : rtab .any (opsOf Try.f43 9) = isAsmF.T9 := by kernel_rfl
theorem isAsmF.bits9 : waitsOk isAsmF.T9.2 isAsmF.B9 = true := by kernel_rfl
set_option maxHeartbeats 4000000 in
set_option maxRecDepth 100000 in
theorem isAssembly_calls (w0 : World) (Ap : Option Addr) (cp : Nat) (parts : List (List Cb)) (hP : kP.C w0 Ap parts.length parts) (hsz : ∀ p ∈ parts, p.length ≤ 1048576) (sol con : List Cb → Bool) (hsol : ∀ p ∈ parts, ∃ K, impl_isSolid.f K p = some (sol p)) (hcon : ∀ p ∈ parts, sol p = true → ∃ K, impl_connectedCubes.f K p = some (con p)) (rest : List Res) (w : World) (hs : Sp w0 rest w) :
  Calls Try.prog 43 #[.agg #[.slice Ap parts.length cp]] w fun e w' => e = .returned (.bool (isAsmP sol con parts)) ∧ Sp w0 rest w' := by
 have hu32 := Try.underlying26
 have HS := A0_ hs
 have HP := A0_ hP
 have HSZ := A0_ hsz
 have HSOL := A0_ hsol
 have HCON := A0_ hcon
 clear hs hP hsz hsol hcon
 by_cases c1 : parts.length < 2
 ·have d0 : decide ((parts.length : Int) < 2) = true := decide_eq_true (by omega)
  have d1 : ((parts.length : Int) < 2) = True := eq_true (by omega)
  have d2 : (parts.length < 2) = True := eq_true c1
  have HN := A0_ (show isAsmP sol con parts = false by unfold isAsmP; rw [decide_eq_false (show ¬ 2 ≤ parts.length by omega)]; rfl)
  clear c1
  go_enter Try.func43, Try.ntmps43
  go_wp2_with (first
   | ((with_reducible refine gate_dst (N := 1) rfl ?_); refine be_ (N := 1) (cs := #[.slice Ap parts.length cp]) (t := 26) ?_; intro ga hgb_ wb_ hcb_ hbb_; replace HS := A0_ (Sp.boxed HS.out hgb_ hcb_ hbb_); clear hgb_ hcb_ hbb_; have ha0 := (cl_ HS 0 0 rfl).trans rfl))
  go_ret
  exact ⟨by rw [HN.out]; rfl, Sp.tail HS.out⟩
 by_cases c2 : 4 < parts.length
 ·have d0 : decide ((parts.length : Int) < 2) = false := decide_eq_false (by omega)
  have d1 : ((parts.length : Int) < 2) = False := eq_false (by omega)
  have d2 : (parts.length < 2) = False := eq_false c1
  have d3 : decide ((4 : Int) < (parts.length : Int)) = true := decide_eq_true (by omega)
  have d4 : ((4 : Int) < (parts.length : Int)) = True := eq_true (by omega)
  have d5 : (4 < parts.length) = True := eq_true c2
  have HN := A0_ (show isAsmP sol con parts = false by unfold isAsmP; rw [decide_eq_false (show ¬ parts.length ≤ 4 by omega), Bool.and_false]; rfl)
  clear c1 c2
  go_enter Try.func43, Try.ntmps43
  go_wp2_with (first
   | ((with_reducible refine gate_dst (N := 1) rfl ?_); refine be_ (N := 1) (cs := #[.slice Ap parts.length cp]) (t := 26) ?_; intro ga hgb_ wb_ hcb_ hbb_; replace HS := A0_ (Sp.boxed HS.out hgb_ hcb_ hbb_); clear hgb_ hcb_ hbb_; have ha0 := (cl_ HS 0 0 rfl).trans rfl))
  go_ret
  exact ⟨by rw [HN.out]; rfl, Sp.tail HS.out⟩
 have d0 : decide ((parts.length : Int) < 2) = false := decide_eq_false (by omega)
 have d1 : ((parts.length : Int) < 2) = False := eq_false (by omega)
 have d2 : (parts.length < 2) = False := eq_false c1
 have d3 : decide ((4 : Int) < (parts.length : Int)) = false := decide_eq_false (by omega)
 have d4 : ((4 : Int) < (parts.length : Int)) = False := eq_false (by omega)
 have d5 : (4 < parts.length) = False := eq_false c2
 have HN := A0_ (show isAsmP sol con parts = (parts.all (partOk sol con) && clearP parts (zerosC parts.length)) by unfold isAsmP; rw [decide_eq_true (show 2 ≤ parts.length by omega), decide_eq_true (show parts.length ≤ 4 by omega)]; rfl)
 have HL := A0_ (show 2 ≤ parts.length ∧ parts.length ≤ 4 by omega)
 have HF := A0_ (show FrOk w0 Ap parts from ⟨HP.out, by omega, HSZ.out⟩)
 rw [HN.out]
 clear c1 c2 HN
 go_enter Try.func43, Try.ntmps43
 go_wp2_with (first
  | ((with_reducible refine gate_dst (N := 1) rfl ?_); refine be_ (N := 1) (cs := #[.slice Ap parts.length cp]) (t := 26) ?_; intro ga hgb_ wb_ hcb_ hbb_; replace HS := A0_ (Sp.boxed HS.out hgb_ hcb_ hbb_); clear hgb_ hcb_ hbb_; have ha0 := (cl_ HS 0 0 rfl).trans rfl))
 clear ha0
 replace HS := A0_ (show Sp w0 ([Res.blk ga #[.slice Ap parts.length cp] 26] ++ rest) wb_ from HS.out)
 go_loopg [18] (parts.length + 1) (fun kq v18 w' => ∃ (i : Nat), v18 = .int .i64 (i : Int) ∧ Aside0 (i ≤ parts.length ∧ kq + i = parts.length + 1 ∧ (parts.take i).all (partOk sol con) = true) ∧ Aside0 (Sp w0 ([Res.blk ga #[.slice Ap parts.length cp] 26] ++ rest) w'))
 case atStart => exact ⟨0, rfl, ⟨by omega, by omega, by simp⟩, HS⟩
 case round =>
  clear HS
  obtain ⟨i, rfl, HX, HS⟩ := hrel
  obtain ⟨k1, rfl⟩ : ∃ k1, gk = k1 + 1 := ⟨gk - 1, by have := HX.out; omega⟩
  by_cases ci : i < parts.length
  ·have ci0 : decide (i < parts.length) = true := decide_eq_true ci
   have q0 : (0 ≤ (i : Int)) = True := eq_true (by omega)
   have q1 : ((i : Int) < (parts.length : Int)) = True := eq_true (by omega)
   obtain ⟨adp, Ai, ci_, e, hx0, hx1, hx2⟩ := at_L3 (Kd.C_below HP.out HS.out.below) (i : Int) (by omega) (by omega)
   subst e
   have hpi : rd_L3 parts (i : Int) = parts[i] := by unfold rd_L3; simp [ci]
   rw [hpi] at hx0 hx1 hx2
   rw [Int.toNat_natCast] at hx0
   have hin : parts[i] ∈ parts := List.getElem_mem ci
   obtain ⟨K1, hK1⟩ := HSOL.out _ hin
   have hK2 := HCON.out _ hin
   have HNX := A0_ (show (parts.take (i + 1)).all (partOk sol con) = partOk sol con parts[i] by rw [List.take_succ_eq_append_getElem ci, List.all_append, HX.out.2.2]; simp)
   have HNO := A0_ (fun (h : partOk sol con parts[i] = false) => show parts.all (partOk sol con) = false by
    rw [Bool.eq_false_iff]
    intro hc
    rw [List.all_eq_true] at hc
    rw [hc _ hin] at h
    cases h)
   have HW := A0_ (wrap_succ i (by have := HL.out; omega))
   generalize parts[i] = p at hx0 hx1 hx2 hK1 hK2 HNX HNO
   have HC := A0_ hx2
   have HCC := A0_ hx1
   clear hpi hin ci hx1 hx2
   cases c1 : sol p with
   | false =>
    rw [c1] at hK1
    have HK1 := A0_ hK1
    have HFA := A0_ (HNO.out (by unfold partOk; rw [c1]; first | done | rfl))
    clear hK1 hK2 HNX HNO c1
    go_wp2_with (first
     | (go_at_call 72; refine (impl_isSolid.calls K1 Ai ci_ p false _ HC.out HCC.out HK1.out).mono ?_; rintro e wc_ ⟨rfl, hb_⟩; replace HS := A0_ (Sp.far HS.out hb_); clear hb_ hx0))
    go_ret
    exact ⟨by rw [HFA.out]; rfl, Sp.tail HS.out⟩
   | true =>
    rw [c1] at hK1
    have HK1 := A0_ hK1
    obtain ⟨K2, hK2⟩ := hK2 c1
    cases c2 : con p with
    | false =>
     rw [c2] at hK2
     have HK2 := A0_ hK2
     have HFA := A0_ (HNO.out (by unfold partOk; rw [c1, c2]; first | done | rfl))
     clear hK1 hK2 HNX HNO c1 c2
     go_wp2_with (first
      | (go_at_call 72; refine (impl_isSolid.calls K1 Ai ci_ p true _ HC.out HCC.out HK1.out).mono ?_; rintro e wc_ ⟨rfl, hb_⟩; replace HS := A0_ (Sp.far HS.out hb_); replace HC := A0_ (Kd.C_below HC.out hb_); clear hb_ hx0)
      | (go_at_call 73; refine (impl_connectedCubes.calls K2 Ai ci_ p false _ HC.out HCC.out HK2.out).mono ?_; rintro e wc_ ⟨rfl, hb_⟩; replace HS := A0_ (Sp.far HS.out hb_); clear hb_))
     go_ret
     exact ⟨by rw [HFA.out]; rfl, Sp.tail HS.out⟩
    | true =>
     rw [c2] at hK2
     have HK2 := A0_ hK2
     cases c3 : p.any (fun c => !inCb c 0 7) with
     | true =>
      have HAN := A0_ c3
      have HFA := A0_ (HNO.out (by unfold partOk; rw [c1, c2, c3]; first | done | rfl))
      clear hK1 hK2 HNX HNO c1 c2 c3
      go_wp2_with (first
       | (go_at_call 72; refine (impl_isSolid.calls K1 Ai ci_ p true _ HC.out HCC.out HK1.out).mono ?_; rintro e wc_ ⟨rfl, hb_⟩; replace HS := A0_ (Sp.far HS.out hb_); replace HC := A0_ (Kd.C_below HC.out hb_); clear hb_ hx0)
       | (go_at_call 73; refine (impl_connectedCubes.calls K2 Ai ci_ p true _ HC.out HCC.out HK2.out).mono ?_; rintro e wc_ ⟨rfl, hb_⟩; replace HS := A0_ (Sp.far HS.out hb_); replace HC := A0_ (Kd.C_below HC.out hb_); clear hb_)
       | (go_at_call 74; refine (containsFunc_calls Ai ci_ p _ _ #[] _ (in7_pred _) HC.out).mono ?_; rw [HAN.out]; rintro e wc_ ⟨rfl, hb_⟩; replace HS := A0_ (Sp.far HS.out hb_); clear hb_))
      go_ret
      exact ⟨by rw [HFA.out]; rfl, Sp.tail HS.out⟩
     | false =>
      have HAN := A0_ c3
      have HN2 := A0_ (HNX.out.trans (by unfold partOk; rw [c1, c2, c3]; first | done | rfl))
      clear hK1 hK2 HNX HNO c1 c2 c3
      go_wp2_with (first
       | (go_at_call 72; refine (impl_isSolid.calls K1 Ai ci_ p true _ HC.out HCC.out HK1.out).mono ?_; rintro e wc_ ⟨rfl, hb_⟩; replace HS := A0_ (Sp.far HS.out hb_); replace HC := A0_ (Kd.C_below HC.out hb_); clear hb_ hx0)
       | (go_at_call 73; refine (impl_connectedCubes.calls K2 Ai ci_ p true _ HC.out HCC.out HK2.out).mono ?_; rintro e wc_ ⟨rfl, hb_⟩; replace HS := A0_ (Sp.far HS.out hb_); replace HC := A0_ (Kd.C_below HC.out hb_); clear hb_)
       | (go_at_call 74; refine (containsFunc_calls Ai ci_ p _ _ #[] _ (in7_pred _) HC.out).mono ?_; rw [HAN.out]; rintro e wc_ ⟨rfl, hb_⟩; replace HS := A0_ (Sp.far HS.out hb_); clear hb_))
      go_roundg k1
      case measure => omega
      case rel =>
       rw [HW.out]
       exact ⟨i + 1, rfl, ⟨by have := of_decide_eq_true ci0; omega, by have := HX.out; omega, HN2.out⟩, HS⟩
  ·have ci0 : decide (i < parts.length) = false := decide_eq_false ci
   have HALL := A0_ (show parts.all (partOk sol con) = true by
    have h := HX.out.2.2
    rw [List.take_of_length_le (by omega)] at h
    exact h)
   clear ci
   go_wp2
   replace HS := A0_ (Sp.drew HS.out)
   refine start_ (n := 8) (S := fun w' => w'.cell? ⟨ga, 0, none⟩ = some (.slice Ap parts.length cp)) (ds := []) #[false, false, false, false, false, false, false, false] (by kernel_rfl) rfl rfl ((cl_ HS 0 0 rfl).trans rfl) (fun hHeld => ?_)
   refine with_tabW isAsmF.tab9 isAsmF.bits9 (fun HT_ HW_ => ?_)
   generalize wr.drew = wD at HS hHeld ⊢
   refine tk_ 0 (some 35) ?_
   refine on_ 2 (some 37) ?_
   refine tk_ 3 (some 38) ?_
   refine on_ 4 (some 39) ?_
   refine o2_ 1 5 (some 36) (some 40) (fun K hK => ?_) (fun K hK => ?_)
   ·refine gs_ Try.func50 #[.agg #[.slice Ap parts.length cp]] ?_
    refine (newFrame_calls w0 Ap cp parts ([Res.blk ga #[.slice Ap parts.length cp] 26] ++ rest) _ HS.out).mono ?_
    rintro e wF ⟨gF, gM, rfl, hs_⟩
    refine ⟨_, rfl, ?_⟩
    replace HS := A0_ (hs_)
    clear hs_
    refine hK.out _ _ ((cl_ HS 2 0 rfl).trans rfl) (fun hHeld => ?_)
    clear hK K
    refine nm_ (some 36) ?_
    refine o1_ 5 (some 40) (fun K hK => ?_)
    refine Kd.R_make_step kC _ 94 (by rfl) (N := 40) rfl 35 _ _ rfl ((parts.length : Nat) : Int) rfl rfl Try.underlying35 (.agg #[(.int .i64 0), (.int .i64 0), (.int .i64 0)]) 24 info94 rfl (by decide) (by decide) (⟨0, 0, 0⟩ : Cb) (ok := fun _ => True) (okp := fun _ => True) (k94_mkM _ _ _ (⟨0, 0, 0⟩ : Cb)) (fun _ hk => hk) trivial (by omega) (by have := HL.out; omega) (Below.refl _ _) (Nat.le_refl _) ?_
    intro vA11 wA11 ho hb hg_ hn_
    clear hg_ hn_
    rw [Int.toNat_natCast] at ho
    have HZR_ := A0_ (Sp.made' HS.out hb ho)
    clear HS ho hb
    have HS := HZR_
    clear HZR_
    obtain ⟨AZ, cZ, eA_⟩ := Sp.slice HS.out (i := 0) rfl
    subst eA_
    have hcz_ := (Sp.reads HS.out (i := 0) rfl).2.1
    refine hK.out _ _ ((cl_ HS 3 0 rfl).trans rfl) (fun hHeld => ?_)
    clear hK K
    refine nm_ (some 40) ?_
    refine o1_ 6 (some 41) (fun K hK => ?_)
    replace HS := A0_ (Sp.arr (pre := [Res.row kC 94 w0.heap.size (.slice AZ (zerosC parts.length).length cZ) (zerosC parts.length), frBlk gF gM Ap cp parts, frMemo gM parts, Res.blk ga #[.slice Ap parts.length cp] 26]) (pre' := [frBlk gF gM Ap cp parts, frMemo gM parts, Res.row kC 94 w0.heap.size (.slice AZ (zerosC parts.length).length cZ) (zerosC parts.length), Res.blk ga #[.slice Ap parts.length cp] 26]) (rest := rest) [1, 2, 0, 3] HS.out rfl rfl)
    have hzl_ : (zerosC parts.length).length = parts.length := List.length_replicate
    have hcl_ := clear_calls w0 Ap cp gF gM parts HF.out (Res.row kC 94 w0.heap.size (.slice AZ (zerosC parts.length).length cZ) (zerosC parts.length)) AZ cZ (zerosC parts.length) Rds.row hcz_ (by rw [hzl_]; exact Nat.le_refl _) ([Res.blk ga #[.slice Ap parts.length cp] 26] ++ rest) _ HS.out
    refine gs_ Try.func77 #[.pointer (some ⟨gF, 0, none⟩), .slice AZ (zerosC parts.length).length cZ] ?_
    refine hcl_.mono ?_
    rintro e wC ⟨rfl, hs_⟩
    refine ⟨_, rfl, ?_⟩
    replace HS := A0_ (hs_)
    clear hs_ hcl_
    refine hK.out _ _ ((cl_ HS 3 0 rfl).trans rfl) (fun hHeld => ?_)
    clear hK K
    refine nm_ (some 41) ?_
    refine on_ 7 (some 2) ?_
    refine dn_ ?_
    try go_wp2
    go_ret
    exact ⟨by rw [HALL.out]; rfl, Sp.out (Sp.out (Sp.out (Sp.out HS.out 3) 2) 1) 0⟩
   ·refine Kd.R_make_step kC _ 94 (by rfl) (N := 40) rfl 35 _ _ rfl ((parts.length : Nat) : Int) rfl rfl Try.underlying35 (.agg #[(.int .i64 0), (.int .i64 0), (.int .i64 0)]) 24 info94 rfl (by decide) (by decide) (⟨0, 0, 0⟩ : Cb) (ok := fun _ => True) (okp := fun _ => True) (k94_mkM _ _ _ (⟨0, 0, 0⟩ : Cb)) (fun _ hk => hk) trivial (by omega) (by have := HL.out; omega) (Below.refl _ _) (Nat.le_refl _) ?_
    intro vA11 wA11 ho hb hg_ hn_
    clear hg_ hn_
    rw [Int.toNat_natCast] at ho
    have HZR_ := A0_ (Sp.made' HS.out hb ho)
    clear HS ho hb
    have HS := HZR_
    clear HZR_
    obtain ⟨AZ, cZ, eA_⟩ := Sp.slice HS.out (i := 0) rfl
    subst eA_
    have hcz_ := (Sp.reads HS.out (i := 0) rfl).2.1
    refine hK.out _ _ ((cl_ HS 1 0 rfl).trans rfl) (fun hHeld => ?_)
    clear hK K
    refine nm_ (some 40) ?_
    refine o1_ 1 (some 36) (fun K hK => ?_)
    refine gs_ Try.func50 #[.agg #[.slice Ap parts.length cp]] ?_
    refine (newFrame_calls w0 Ap cp parts ([Res.row kC 94 w0.heap.size (.slice AZ (zerosC parts.length).length cZ) (zerosC parts.length), Res.blk ga #[.slice Ap parts.length cp] 26] ++ rest) _ HS.out).mono ?_
    rintro e wF ⟨gF, gM, rfl, hs_⟩
    refine ⟨_, rfl, ?_⟩
    replace HS := A0_ (hs_)
    clear hs_
    refine hK.out _ _ ((cl_ HS 3 0 rfl).trans rfl) (fun hHeld => ?_)
    clear hK K
    refine nm_ (some 36) ?_
    refine o1_ 6 (some 41) (fun K hK => ?_)
    have hzl_ : (zerosC parts.length).length = parts.length := List.length_replicate
    have hcl_ := clear_calls w0 Ap cp gF gM parts HF.out (Res.row kC 94 w0.heap.size (.slice AZ (zerosC parts.length).length cZ) (zerosC parts.length)) AZ cZ (zerosC parts.length) Rds.row hcz_ (by rw [hzl_]; exact Nat.le_refl _) ([Res.blk ga #[.slice Ap parts.length cp] 26] ++ rest) _ HS.out
    refine gs_ Try.func77 #[.pointer (some ⟨gF, 0, none⟩), .slice AZ (zerosC parts.length).length cZ] ?_
    refine hcl_.mono ?_
    rintro e wC ⟨rfl, hs_⟩
    refine ⟨_, rfl, ?_⟩
    replace HS := A0_ (hs_)
    clear hs_ hcl_
    refine hK.out _ _ ((cl_ HS 3 0 rfl).trans rfl) (fun hHeld => ?_)
    clear hK K
    refine nm_ (some 41) ?_
    refine on_ 7 (some 2) ?_
    refine dn_ ?_
    try go_wp2
    go_ret
    exact ⟨by rw [HALL.out]; rfl, Sp.out (Sp.out (Sp.out (Sp.out HS.out 3) 2) 1) 0⟩
def searchN (parts : List (List Cb)) : Nat → List Nd → Nat → Option (List Nd)
 | 0, S, _ => some S
 | f + 1, S, k => if k < S.length then (spreadP parts (S.getD k default).1 k S).bind (fun S' => searchN parts f S' (k + 1)) else some S
def searchP (parts : List (List Cb)) : Option (List Nd) := searchN parts 1201 [(zerosC parts.length, -1, 0)] 0
def statesP (sol con : List Cb → Bool) (parts : List (List Cb)) : Int × Int :=
 if isAsmP sol con parts = true then (match searchP parts with | none => (0, 3) | some S => ((S.length : Int), 0)) else (0, 1)
theorem visit_le {o : List Cb} {k : Int} {S S' : List Nd} {m : Int} (h : visitP o k S m = some S') : S.length ≤ S'.length := by
 unfold visitP at h
 split at h
 ·injection h with h; subst h; exact Nat.le_refl _
 ·split at h
  ·injection h with h; subst h; exact Nat.le_refl _
  ·split at h
   ·cases h
   ·injection h with h; subst h; rw [List.length_append]; omega
theorem spread_le {o : List Cb} {k : Int} : ∀ (ms : List Int) {S S' : List Nd}, ms.foldlM (visitP o k) S = some S' → S.length ≤ S'.length
 | [], S, S', h => by
  have : S = S' := Option.some.inj h
  subst this
  exact Nat.le_refl _
 | m :: ms, S, S', h => by
  rw [List.foldlM_cons] at h
  obtain ⟨T, h1, h2⟩ := Option.bind_eq_some_iff.1 h
  exact Nat.le_trans (visit_le h1) (spread_le ms h2)
set_option maxHeartbeats 4000000 in
set_option maxRecDepth 100000 in
theorem statesOf_calls (Ap : Option Addr) (cp : Nat) (parts : List (List Cb)) (w : World) (hP : kP.C w Ap parts.length parts) (hsz : ∀ p ∈ parts, p.length ≤ 1048576) (sol con : List Cb → Bool) (hsol : ∀ p ∈ parts, ∃ K, impl_isSolid.f K p = some (sol p)) (hcon : ∀ p ∈ parts, sol p = true → ∃ K, impl_connectedCubes.f K p = some (con p)) :
  Calls Try.prog 18 #[.agg #[.slice Ap parts.length cp]] w fun e w' => e = .returned (.tuple #[.int .i64 (statesP sol con parts).1, .int .i64 (statesP sol con parts).2]) ∧ Below w.heap.size w w' := by
 have hu32 := Try.underlying26
 have HS := A0_ (Sp.start w)
 have hia := fun rs w2 (hs : Sp w rs w2) => isAssembly_calls w Ap cp parts hP hsz sol con hsol hcon rs w2 hs
 cases has : isAsmP sol con parts with
 | false =>
  rw [has] at hia
  have HIA := A0_ hia
  have HST := A0_ (show statesP sol con parts = (0, 1) by unfold statesP; rw [has, if_neg (by simp)])
  clear has hia hP hsz hsol hcon
  rw [HST.out]
  go_enter Try.func18, Try.ntmps18
  go_wp2_with (first
   | ((with_reducible refine gate_dst (N := 1) rfl ?_); refine be_ (N := 1) (cs := #[.slice Ap parts.length cp]) (t := 26) ?_; intro ga hgb_ wb_ hcb_ hbb_; replace HS := A0_ (Sp.boxed HS.out hgb_ hcb_ hbb_); clear hgb_ hcb_ hbb_; have ha0 := (cl_ HS 0 0 rfl).trans rfl)
   | (go_at_call 43; refine (HIA.out _ _ HS.out).mono ?_; rintro e wi_ ⟨rfl, hs_⟩; replace HS := A0_ (hs_); clear hs_ ha0))
  go_ret2
  exact ⟨rfl, HS.out.below⟩
 | true =>
  rw [has] at hia
  have HIA := A0_ hia
  have hlen : 2 ≤ parts.length ∧ parts.length ≤ 4 := by
   unfold isAsmP at has
   rw [Bool.and_eq_true, Bool.and_eq_true, decide_eq_true_eq, decide_eq_true_eq] at has
   exact has.1
  have HL := A0_ (show 1 ≤ parts.length ∧ parts.length ≤ 4 by omega)
  have HF := A0_ (show FrOk w Ap parts from ⟨hP, by omega, hsz⟩)
  have HST := A0_ (show statesP sol con parts = (match searchP parts with | none => (0, 3) | some S => ((S.length : Int), 0)) by unfold statesP; rw [has, if_pos rfl])
  clear has hia hP hsz hsol hcon hlen
  obtain ⟨RV, hRV⟩ : ∃ RV, RV = statesP sol con parts := ⟨_, rfl⟩
  have HRV := A0_ (hRV.trans HST.out)
  rw [← hRV]
  clear hRV
  have HSR := A0_ (show searchP parts = searchN parts 1201 [(zerosC parts.length, -1, 0)] 0 from rfl)
  obtain ⟨R, hR⟩ : ∃ R, R = searchP parts := ⟨_, rfl⟩
  rw [← hR] at HSR HRV
  clear hR
  go_enter Try.func18, Try.ntmps18
  go_wp2_with (first
   | ((with_reducible refine gate_dst (N := 1) rfl ?_); refine be_ (N := 1) (cs := #[.slice Ap parts.length cp]) (t := 26) ?_; intro ga hgb_ wb_ hcb_ hbb_; replace HS := A0_ (Sp.boxed HS.out hgb_ hcb_ hbb_); clear hgb_ hcb_ hbb_; have ha0 := (cl_ HS 0 0 rfl).trans rfl)
   | (go_at_call 43; refine (HIA.out _ _ HS.out).mono ?_; rintro e wi_ ⟨rfl, hs_⟩; replace HS := A0_ (hs_); clear hs_ ha0; have ha0 := (cl_ HS 0 0 rfl).trans rfl)
   | (go_at_call 44; refine (newTaking_calls w Ap cp parts HL.out _ _ HS.out).mono ?_; rintro e wt_ ⟨gt, g, gM, gS, As0, cs0, st0, hst_, rfl, hs_⟩; have HST0 := A0_ hst_; clear hst_; replace HS := A0_ (hs_); clear hs_ ha0))
  go_loopg [5] 1202 (fun kq v5 w' => ∃ (k : Nat) (As : Option Addr) (cs : Nat) (ST : List (RawSt × List Cb)), v5 = .int .i64 (k : Int) ∧ Aside0 (k ≤ ST.length ∧ kq + k = 1202 ∧ searchN parts (1201 - k) (ST.map nodeOf) k = R ∧ (∀ p ∈ ST, p.2.length = parts.length) ∧ ST.length ≤ 1200) ∧ Aside0 (Sp w (tkRes w.heap.size gt g gM gS Ap cp parts As cs ST ++ [Res.blk ga #[.slice Ap parts.length cp] 26]) w'))
  case atStart => exact ⟨0, As0, cs0, [(st0, zerosC parts.length)], rfl, ⟨by simp, by omega, by rw [HSR.out]; exact congrArg (fun z => searchN parts 1201 z 0) (by show [nodeOf (st0, zerosC parts.length)] = _; rw [show nodeOf (st0, zerosC parts.length) = (zerosC parts.length, st0.src, st0.mv) from rfl, HST0.out.1, HST0.out.2]), fun p hp => by obtain rfl := List.mem_singleton.1 hp; exact List.length_replicate, by simp⟩, HS⟩
  case round =>
   clear HS
   obtain ⟨k, As, cs, ST, rfl, HX, HS⟩ := hrel
   obtain ⟨k1, rfl⟩ : ∃ k1, gk = k1 + 1 := ⟨gk - 1, by have := HX.out; omega⟩
   have htk1 : wr.cell? ⟨gt, 1, none⟩ = some (.slice As ST.length cs) := (cl_ HS 0 1 rfl).trans rfl
   by_cases ck : k < ST.length
   ·have ck0 : decide (k < ST.length) = true := decide_eq_true ck
    have HW := A0_ (wrap_succ k (by have := HX.out; omega))
    obtain ⟨p0, hp0⟩ : ∃ p0, ST[k]? = some p0 := ⟨ST[k], List.getElem?_eq_getElem ck⟩
    have hgd : ((ST.map nodeOf).getD k default).1 = p0.2 := by rw [List.getD_eq_getElem?_getD, List.getElem?_map, hp0]; rfl
    have hse := HX.out.2.2.1
    rw [show 1201 - k = (1200 - k) + 1 by have := HX.out; omega] at hse
    unfold searchN at hse
    rw [if_pos (by rw [List.length_map]; exact ck), hgd] at hse
    have hsp := spread_calls w Ap cp g gM gS gt parts HF.out HL.out As cs ST k p0 hp0 HX.out.2.2.2.1 HX.out.2.2.2.2 [Res.blk ga #[.slice Ap parts.length cp] 26] wr HS.out
    cases hv : spreadP parts p0.2 k (ST.map nodeOf) with
    | none =>
     rw [hv] at hsp hse
     have HSP := A0_ hsp
     have HR := A0_ (show R = none from hse.symm)
     clear hse hsp hv hgd hp0 ck
     go_wp2_with (first
      | (go_at_call 47; refine HSP.out.mono ?_; rintro e ws_ hp_; obtain ⟨rfl, hb_⟩ := hp_; have HBL := A0_ hb_; clear hb_ htk1))
     go_ret2
     have hrv : RV = (0, 3) := by rw [HRV.out, HR.out]
     exact ⟨by rw [hrv]; rfl, HBL.out⟩
    | some S' =>
     rw [hv] at hsp hse
     have HSP := A0_ hsp
     have HLE := A0_ (show (ST.map nodeOf).length ≤ S'.length from spread_le _ hv)
     have HCK := A0_ ck
     have HSE := A0_ (show searchN parts (1200 - k) S' (k + 1) = R from hse)
     clear hse hsp hv hgd hp0 ck
     go_wp2_with (first
      | (go_at_call 47; refine HSP.out.mono ?_; rintro e ws_ hp_; obtain ⟨rfl, As2, cs2, ST2, hm2_, hl2_, h12_, hs_⟩ := hp_; have HM2 := A0_ hm2_; have HL2 := A0_ hl2_; have H122 := A0_ h12_; replace HS := A0_ (hs_); clear hs_ hm2_ hl2_ h12_ htk1))
     go_roundg k1
     case measure => omega
     case rel =>
      rw [HW.out]
      exact ⟨k + 1, As2, cs2, ST2, rfl, ⟨by have h1 := HLE.out; have h2 := HCK.out; rw [← HM2.out, List.length_map, List.length_map] at h1; omega, by have := HX.out; omega, by rw [HM2.out, show 1201 - (k + 1) = 1200 - k by omega]; exact HSE.out, HL2.out, H122.out⟩, HS⟩
   ·have ck0 : decide (k < ST.length) = false := decide_eq_false ck
    have HR := A0_ (show R = some (ST.map nodeOf) by
     have hse := HX.out.2.2.1
     rw [show 1201 - k = (1200 - k) + 1 by have := HX.out; omega] at hse
     unfold searchN at hse
     rw [if_neg (by rw [List.length_map]; exact ck)] at hse
     exact hse.symm)
    clear ck
    go_wp2
    go_ret2
    have hrv : RV = ((ST.length : Int), 0) := by rw [HRV.out, HR.out]; dsimp only; rw [List.length_map]
    exact ⟨by rw [hrv]; rfl, HS.out.below⟩
section
attribute [local go_sem] max2_int min2_int max_two min_two max_three min_three max_four min_four
def spec_l09Less.f (a0_0 : Int) (a0_1 : Int) (a0_2 : Int) (a1_0 : Int) (a1_1 : Int) (a1_2 : Int) : Option (Bool) := if a0_2 < a1_2 then (some true) else (if a0_2 = a1_2 then (if a0_1 < a1_1 then (some true) else (if a0_1 = a1_1 then (some (decide (a0_0 < a1_0))) else (some false))) else (some false))
set_option maxHeartbeats 8000000 in
set_option maxRecDepth 100000 in
theorem spec_l09Less.calls (a0_0 : Int) (a0_1 : Int) (a0_2 : Int) (a1_0 : Int) (a1_1 : Int) (a1_2 : Int) (r : Bool) (w : World) (h : spec_l09Less.f a0_0 a0_1 a0_2 a1_0 a1_1 a1_2 = some r) :
    Calls Try.prog 109 #[.agg #[.int .i64 a0_0, .int .i64 a0_1, .int .i64 a0_2], .agg #[.int .i64 a1_0, .int .i64 a1_1, .int .i64 a1_2]] w fun e w' => e = .returned (.bool r) ∧ Below w.heap.size w w' := by
 (have hu94 := Try.underlying94); (have HB := A0_ (Below.refl w.heap.size w)); (have H : (if a0_2 < a1_2 then (some true) else (if a0_2 = a1_2 then (if a0_1 < a1_1 then (some true) else (if a0_1 = a1_1 then (some (decide (a0_0 < a1_0))) else (some false))) else (some false))) = some r := h); clear h; (by_cases c3 : a0_2 < a1_2)
 ·(rw [if_pos c3] at H); (have c3b0 : decide (a0_2 < a1_2) = true := decide_eq_true c3); clear c3; (obtain rfl := Option.some.inj H); (go_enter Try.func109, Try.ntmps109); (go_wp2_with (first | ((with_reducible refine gate_dst (N := 2) rfl ?_); refine be_ (N := 2) (cs := #[.int .i64 a0_0, .int .i64 a0_1, .int .i64 a0_2]) (t := 94) ?_; intro gb125 hg w4 hbox hb; have n0_ := A0_ (below_step bw_ hb); have n1_ := A0_ (hbox); have n2_ := A0_ ((by rw [hg]; exact (below_size bw_) : w.heap.size ≤ gb125)); have n3_ := A0_ ((by rw [hg]; exact (below_size bw_) : w.heap.size ≤ gb125)); clear HB; have HB := n0_; have BK125 := n1_; have GW125 := n2_; have GE125 := n3_; clear n0_ n1_ n2_ n3_; clear hb hbox hg) | ((with_reducible refine gate_dst (N := 3) rfl ?_); refine be_ (N := 3) (cs := #[.int .i64 a1_0, .int .i64 a1_1, .int .i64 a1_2]) (t := 94) ?_; intro gb126 hg w5 hbox hb; have n0_ := A0_ (blk_below (g := gb125) (o := .cells #[.int .i64 a0_0, .int .i64 a0_1, .int .i64 a0_2] 94 (0, 0)) (bk_ BK125) hb); have n1_ := A0_ (below_step bx_ hb); have n2_ := A0_ (hbox); have n3_ := A0_ ((by rw [hg]; exact (below_size bx_) : w.heap.size ≤ gb126)); have n4_ := A0_ ((by rw [hg]; exact (below_size bx_) : w.heap.size ≤ gb126)); have n5_ := A0_ ((by rw [hg]; exact Nat.ne_of_lt (blk_lt (g := gb125) (o := .cells #[.int .i64 a0_0, .int .i64 a0_1, .int .i64 a0_2] 94 (0, 0)) (bk_ BK125)) : gb125 ≠ gb126)); have n6_ := A0_ ((by rw [hg]; exact Nat.ne_of_gt (blk_lt (g := gb125) (o := .cells #[.int .i64 a0_0, .int .i64 a0_1, .int .i64 a0_2] 94 (0, 0)) (bk_ BK125)) : gb126 ≠ gb125)); clear BK125; clear HB; have BK125 := n0_; have HB := n1_; have BK126 := n2_; have GW126 := n3_; have GE126 := n4_; have NB125_126 := n5_; have NB126_125 := n6_; clear n0_ n1_ n2_ n3_ n4_ n5_ n6_; clear hb hbox hg; have hnb6 := NB125_126.out; have hnc6 := NB126_125.out; have hcz7_0 : w5.cell? ⟨gb125, 0, none⟩ = some (.int .i64 a0_0) := (blk_cell BK125.out 0).trans rfl; have hcz7_1 : w5.cell? ⟨gb125, 1, none⟩ = some (.int .i64 a0_1) := (blk_cell BK125.out 1).trans rfl; have hcz7_2 : w5.cell? ⟨gb125, 2, none⟩ = some (.int .i64 a0_2) := (blk_cell BK125.out 2).trans rfl; have hfz7_0 := blk_frozen BK125.out 0; have hfz7_1 := blk_frozen BK125.out 1; have hfz7_2 := blk_frozen BK125.out 2; have hcz8_0 : w5.cell? ⟨gb126, 0, none⟩ = some (.int .i64 a1_0) := (blk_cell BK126.out 0).trans rfl; have hcz8_1 : w5.cell? ⟨gb126, 1, none⟩ = some (.int .i64 a1_1) := (blk_cell BK126.out 1).trans rfl; have hcz8_2 : w5.cell? ⟨gb126, 2, none⟩ = some (.int .i64 a1_2) := (blk_cell BK126.out 2).trans rfl; have hfz8_0 := blk_frozen BK126.out 0; have hfz8_1 := blk_frozen BK126.out 1; have hfz8_2 := blk_frozen BK126.out 2))); go_ret; (exact ⟨er_, bx_⟩)
 ·(rw [if_neg c3] at H); (have c3b0 : decide (a0_2 < a1_2) = false := decide_eq_false c3); clear c3; (by_cases c9 : a0_2 = a1_2)
  ·(rw [if_pos c9] at H); (have c9b0 : (a0_2 == a1_2) = true := beq_iff_eq.mpr c9); (have c9b1 : (a0_2 != a1_2) = false := bne_eq_false_iff_eq.mpr c9); clear c9; (by_cases c10 : a0_1 < a1_1)
   ·(rw [if_pos c10] at H); (have c10b0 : decide (a0_1 < a1_1) = true := decide_eq_true c10); clear c10; (obtain rfl := Option.some.inj H); (go_enter Try.func109, Try.ntmps109); (go_wp2_with (first | ((with_reducible refine gate_dst (N := 2) rfl ?_); refine be_ (N := 2) (cs := #[.int .i64 a0_0, .int .i64 a0_1, .int .i64 a0_2]) (t := 94) ?_; intro gb125 hg w11 hbox hb; have n0_ := A0_ (below_step bw_ hb); have n1_ := A0_ (hbox); have n2_ := A0_ ((by rw [hg]; exact (below_size bw_) : w.heap.size ≤ gb125)); have n3_ := A0_ ((by rw [hg]; exact (below_size bw_) : w.heap.size ≤ gb125)); clear HB; have HB := n0_; have BK125 := n1_; have GW125 := n2_; have GE125 := n3_; clear n0_ n1_ n2_ n3_; clear hb hbox hg) | ((with_reducible refine gate_dst (N := 3) rfl ?_); refine be_ (N := 3) (cs := #[.int .i64 a1_0, .int .i64 a1_1, .int .i64 a1_2]) (t := 94) ?_; intro gb126 hg w12 hbox hb; have n0_ := A0_ (blk_below (g := gb125) (o := .cells #[.int .i64 a0_0, .int .i64 a0_1, .int .i64 a0_2] 94 (0, 0)) (bk_ BK125) hb); have n1_ := A0_ (below_step bx_ hb); have n2_ := A0_ (hbox); have n3_ := A0_ ((by rw [hg]; exact (below_size bx_) : w.heap.size ≤ gb126)); have n4_ := A0_ ((by rw [hg]; exact (below_size bx_) : w.heap.size ≤ gb126)); have n5_ := A0_ ((by rw [hg]; exact Nat.ne_of_lt (blk_lt (g := gb125) (o := .cells #[.int .i64 a0_0, .int .i64 a0_1, .int .i64 a0_2] 94 (0, 0)) (bk_ BK125)) : gb125 ≠ gb126)); have n6_ := A0_ ((by rw [hg]; exact Nat.ne_of_gt (blk_lt (g := gb125) (o := .cells #[.int .i64 a0_0, .int .i64 a0_1, .int .i64 a0_2] 94 (0, 0)) (bk_ BK125)) : gb126 ≠ gb125)); clear BK125; clear HB; have BK125 := n0_; have HB := n1_; have BK126 := n2_; have GW126 := n3_; have GE126 := n4_; have NB125_126 := n5_; have NB126_125 := n6_; clear n0_ n1_ n2_ n3_ n4_ n5_ n6_; clear hb hbox hg; have hnb13 := NB125_126.out; have hnc13 := NB126_125.out; have hcz14_0 : w12.cell? ⟨gb125, 0, none⟩ = some (.int .i64 a0_0) := (blk_cell BK125.out 0).trans rfl; have hcz14_1 : w12.cell? ⟨gb125, 1, none⟩ = some (.int .i64 a0_1) := (blk_cell BK125.out 1).trans rfl; have hcz14_2 : w12.cell? ⟨gb125, 2, none⟩ = some (.int .i64 a0_2) := (blk_cell BK125.out 2).trans rfl; have hfz14_0 := blk_frozen BK125.out 0; have hfz14_1 := blk_frozen BK125.out 1; have hfz14_2 := blk_frozen BK125.out 2; have hcz15_0 : w12.cell? ⟨gb126, 0, none⟩ = some (.int .i64 a1_0) := (blk_cell BK126.out 0).trans rfl; have hcz15_1 : w12.cell? ⟨gb126, 1, none⟩ = some (.int .i64 a1_1) := (blk_cell BK126.out 1).trans rfl; have hcz15_2 : w12.cell? ⟨gb126, 2, none⟩ = some (.int .i64 a1_2) := (blk_cell BK126.out 2).trans rfl; have hfz15_0 := blk_frozen BK126.out 0; have hfz15_1 := blk_frozen BK126.out 1; have hfz15_2 := blk_frozen BK126.out 2))); go_ret; (exact ⟨er_, bx_⟩)
   ·(rw [if_neg c10] at H); (have c10b0 : decide (a0_1 < a1_1) = false := decide_eq_false c10); clear c10; (by_cases c16 : a0_1 = a1_1)
    ·(rw [if_pos c16] at H); (have c16b0 : (a0_1 == a1_1) = true := beq_iff_eq.mpr c16); (have c16b1 : (a0_1 != a1_1) = false := bne_eq_false_iff_eq.mpr c16); clear c16; (obtain rfl := Option.some.inj H); (go_enter Try.func109, Try.ntmps109); (go_wp2_with (first | ((with_reducible refine gate_dst (N := 2) rfl ?_); refine be_ (N := 2) (cs := #[.int .i64 a0_0, .int .i64 a0_1, .int .i64 a0_2]) (t := 94) ?_; intro gb125 hg w17 hbox hb; have n0_ := A0_ (below_step bw_ hb); have n1_ := A0_ (hbox); have n2_ := A0_ ((by rw [hg]; exact (below_size bw_) : w.heap.size ≤ gb125)); have n3_ := A0_ ((by rw [hg]; exact (below_size bw_) : w.heap.size ≤ gb125)); clear HB; have HB := n0_; have BK125 := n1_; have GW125 := n2_; have GE125 := n3_; clear n0_ n1_ n2_ n3_; clear hb hbox hg) | ((with_reducible refine gate_dst (N := 3) rfl ?_); refine be_ (N := 3) (cs := #[.int .i64 a1_0, .int .i64 a1_1, .int .i64 a1_2]) (t := 94) ?_; intro gb126 hg w18 hbox hb; have n0_ := A0_ (blk_below (g := gb125) (o := .cells #[.int .i64 a0_0, .int .i64 a0_1, .int .i64 a0_2] 94 (0, 0)) (bk_ BK125) hb); have n1_ := A0_ (below_step bx_ hb); have n2_ := A0_ (hbox); have n3_ := A0_ ((by rw [hg]; exact (below_size bx_) : w.heap.size ≤ gb126)); have n4_ := A0_ ((by rw [hg]; exact (below_size bx_) : w.heap.size ≤ gb126)); have n5_ := A0_ ((by rw [hg]; exact Nat.ne_of_lt (blk_lt (g := gb125) (o := .cells #[.int .i64 a0_0, .int .i64 a0_1, .int .i64 a0_2] 94 (0, 0)) (bk_ BK125)) : gb125 ≠ gb126)); have n6_ := A0_ ((by rw [hg]; exact Nat.ne_of_gt (blk_lt (g := gb125) (o := .cells #[.int .i64 a0_0, .int .i64 a0_1, .int .i64 a0_2] 94 (0, 0)) (bk_ BK125)) : gb126 ≠ gb125)); clear BK125; clear HB; have BK125 := n0_; have HB := n1_; have BK126 := n2_; have GW126 := n3_; have GE126 := n4_; have NB125_126 := n5_; have NB126_125 := n6_; clear n0_ n1_ n2_ n3_ n4_ n5_ n6_; clear hb hbox hg; have hnb19 := NB125_126.out; have hnc19 := NB126_125.out; have hcz20_0 : w18.cell? ⟨gb125, 0, none⟩ = some (.int .i64 a0_0) := (blk_cell BK125.out 0).trans rfl; have hcz20_1 : w18.cell? ⟨gb125, 1, none⟩ = some (.int .i64 a0_1) := (blk_cell BK125.out 1).trans rfl; have hcz20_2 : w18.cell? ⟨gb125, 2, none⟩ = some (.int .i64 a0_2) := (blk_cell BK125.out 2).trans rfl; have hfz20_0 := blk_frozen BK125.out 0; have hfz20_1 := blk_frozen BK125.out 1; have hfz20_2 := blk_frozen BK125.out 2; have hcz21_0 : w18.cell? ⟨gb126, 0, none⟩ = some (.int .i64 a1_0) := (blk_cell BK126.out 0).trans rfl; have hcz21_1 : w18.cell? ⟨gb126, 1, none⟩ = some (.int .i64 a1_1) := (blk_cell BK126.out 1).trans rfl; have hcz21_2 : w18.cell? ⟨gb126, 2, none⟩ = some (.int .i64 a1_2) := (blk_cell BK126.out 2).trans rfl; have hfz21_0 := blk_frozen BK126.out 0; have hfz21_1 := blk_frozen BK126.out 1; have hfz21_2 := blk_frozen BK126.out 2))); go_ret; (exact ⟨er_, bx_⟩)
    ·(rw [if_neg c16] at H); (have c16b0 : (a0_1 == a1_1) = false := beq_eq_false_iff_ne.mpr c16); (have c16b1 : (a0_1 != a1_1) = true := bne_iff_ne.mpr c16); (obtain rfl := Option.some.inj H); (go_enter Try.func109, Try.ntmps109); (go_wp2_with (first | ((with_reducible refine gate_dst (N := 2) rfl ?_); refine be_ (N := 2) (cs := #[.int .i64 a0_0, .int .i64 a0_1, .int .i64 a0_2]) (t := 94) ?_; intro gb125 hg w22 hbox hb; have n0_ := A0_ (below_step bw_ hb); have n1_ := A0_ (hbox); have n2_ := A0_ ((by rw [hg]; exact (below_size bw_) : w.heap.size ≤ gb125)); have n3_ := A0_ ((by rw [hg]; exact (below_size bw_) : w.heap.size ≤ gb125)); clear HB; have HB := n0_; have BK125 := n1_; have GW125 := n2_; have GE125 := n3_; clear n0_ n1_ n2_ n3_; clear hb hbox hg) | ((with_reducible refine gate_dst (N := 3) rfl ?_); refine be_ (N := 3) (cs := #[.int .i64 a1_0, .int .i64 a1_1, .int .i64 a1_2]) (t := 94) ?_; intro gb126 hg w23 hbox hb; have n0_ := A0_ (blk_below (g := gb125) (o := .cells #[.int .i64 a0_0, .int .i64 a0_1, .int .i64 a0_2] 94 (0, 0)) (bk_ BK125) hb); have n1_ := A0_ (below_step bx_ hb); have n2_ := A0_ (hbox); have n3_ := A0_ ((by rw [hg]; exact (below_size bx_) : w.heap.size ≤ gb126)); have n4_ := A0_ ((by rw [hg]; exact (below_size bx_) : w.heap.size ≤ gb126)); have n5_ := A0_ ((by rw [hg]; exact Nat.ne_of_lt (blk_lt (g := gb125) (o := .cells #[.int .i64 a0_0, .int .i64 a0_1, .int .i64 a0_2] 94 (0, 0)) (bk_ BK125)) : gb125 ≠ gb126)); have n6_ := A0_ ((by rw [hg]; exact Nat.ne_of_gt (blk_lt (g := gb125) (o := .cells #[.int .i64 a0_0, .int .i64 a0_1, .int .i64 a0_2] 94 (0, 0)) (bk_ BK125)) : gb126 ≠ gb125)); clear BK125; clear HB; have BK125 := n0_; have HB := n1_; have BK126 := n2_; have GW126 := n3_; have GE126 := n4_; have NB125_126 := n5_; have NB126_125 := n6_; clear n0_ n1_ n2_ n3_ n4_ n5_ n6_; clear hb hbox hg; have hnb24 := NB125_126.out; have hnc24 := NB126_125.out; have hcz25_0 : w23.cell? ⟨gb125, 0, none⟩ = some (.int .i64 a0_0) := (blk_cell BK125.out 0).trans rfl; have hcz25_1 : w23.cell? ⟨gb125, 1, none⟩ = some (.int .i64 a0_1) := (blk_cell BK125.out 1).trans rfl; have hcz25_2 : w23.cell? ⟨gb125, 2, none⟩ = some (.int .i64 a0_2) := (blk_cell BK125.out 2).trans rfl; have hfz25_0 := blk_frozen BK125.out 0; have hfz25_1 := blk_frozen BK125.out 1; have hfz25_2 := blk_frozen BK125.out 2; have hcz26_0 : w23.cell? ⟨gb126, 0, none⟩ = some (.int .i64 a1_0) := (blk_cell BK126.out 0).trans rfl; have hcz26_1 : w23.cell? ⟨gb126, 1, none⟩ = some (.int .i64 a1_1) := (blk_cell BK126.out 1).trans rfl; have hcz26_2 : w23.cell? ⟨gb126, 2, none⟩ = some (.int .i64 a1_2) := (blk_cell BK126.out 2).trans rfl; have hfz26_0 := blk_frozen BK126.out 0; have hfz26_1 := blk_frozen BK126.out 1; have hfz26_2 := blk_frozen BK126.out 2))); go_ret; (exact ⟨er_, bx_⟩)
  ·(rw [if_neg c9] at H); (have c9b0 : (a0_2 == a1_2) = false := beq_eq_false_iff_ne.mpr c9); (have c9b1 : (a0_2 != a1_2) = true := bne_iff_ne.mpr c9); (obtain rfl := Option.some.inj H); (go_enter Try.func109, Try.ntmps109); (go_wp2_with (first | ((with_reducible refine gate_dst (N := 2) rfl ?_); refine be_ (N := 2) (cs := #[.int .i64 a0_0, .int .i64 a0_1, .int .i64 a0_2]) (t := 94) ?_; intro gb125 hg w27 hbox hb; have n0_ := A0_ (below_step bw_ hb); have n1_ := A0_ (hbox); have n2_ := A0_ ((by rw [hg]; exact (below_size bw_) : w.heap.size ≤ gb125)); have n3_ := A0_ ((by rw [hg]; exact (below_size bw_) : w.heap.size ≤ gb125)); clear HB; have HB := n0_; have BK125 := n1_; have GW125 := n2_; have GE125 := n3_; clear n0_ n1_ n2_ n3_; clear hb hbox hg) | ((with_reducible refine gate_dst (N := 3) rfl ?_); refine be_ (N := 3) (cs := #[.int .i64 a1_0, .int .i64 a1_1, .int .i64 a1_2]) (t := 94) ?_; intro gb126 hg w28 hbox hb; have n0_ := A0_ (blk_below (g := gb125) (o := .cells #[.int .i64 a0_0, .int .i64 a0_1, .int .i64 a0_2] 94 (0, 0)) (bk_ BK125) hb); have n1_ := A0_ (below_step bx_ hb); have n2_ := A0_ (hbox); have n3_ := A0_ ((by rw [hg]; exact (below_size bx_) : w.heap.size ≤ gb126)); have n4_ := A0_ ((by rw [hg]; exact (below_size bx_) : w.heap.size ≤ gb126)); have n5_ := A0_ ((by rw [hg]; exact Nat.ne_of_lt (blk_lt (g := gb125) (o := .cells #[.int .i64 a0_0, .int .i64 a0_1, .int .i64 a0_2] 94 (0, 0)) (bk_ BK125)) : gb125 ≠ gb126)); have n6_ := A0_ ((by rw [hg]; exact Nat.ne_of_gt (blk_lt (g := gb125) (o := .cells #[.int .i64 a0_0, .int .i64 a0_1, .int .i64 a0_2] 94 (0, 0)) (bk_ BK125)) : gb126 ≠ gb125)); clear BK125; clear HB; have BK125 := n0_; have HB := n1_; have BK126 := n2_; have GW126 := n3_; have GE126 := n4_; have NB125_126 := n5_; have NB126_125 := n6_; clear n0_ n1_ n2_ n3_ n4_ n5_ n6_; clear hb hbox hg; have hnb29 := NB125_126.out; have hnc29 := NB126_125.out; have hcz30_0 : w28.cell? ⟨gb125, 0, none⟩ = some (.int .i64 a0_0) := (blk_cell BK125.out 0).trans rfl; have hcz30_1 : w28.cell? ⟨gb125, 1, none⟩ = some (.int .i64 a0_1) := (blk_cell BK125.out 1).trans rfl; have hcz30_2 : w28.cell? ⟨gb125, 2, none⟩ = some (.int .i64 a0_2) := (blk_cell BK125.out 2).trans rfl; have hfz30_0 := blk_frozen BK125.out 0; have hfz30_1 := blk_frozen BK125.out 1; have hfz30_2 := blk_frozen BK125.out 2; have hcz31_0 : w28.cell? ⟨gb126, 0, none⟩ = some (.int .i64 a1_0) := (blk_cell BK126.out 0).trans rfl; have hcz31_1 : w28.cell? ⟨gb126, 1, none⟩ = some (.int .i64 a1_1) := (blk_cell BK126.out 1).trans rfl; have hcz31_2 : w28.cell? ⟨gb126, 2, none⟩ = some (.int .i64 a1_2) := (blk_cell BK126.out 2).trans rfl; have hfz31_0 := blk_frozen BK126.out 0; have hfz31_1 := blk_frozen BK126.out 1; have hfz31_2 := blk_frozen BK126.out 2))); go_ret; (exact ⟨er_, bx_⟩)
end
section
attribute [local go_sem] max2_int min2_int max_two min_two max_three min_three max_four min_four
def spec_l09Compare.l0 : Nat → List (S94) → List (S94) → Int → Option (Int)
  | 0, _, _, _ => none
  | k + 1, x0, x1, x5 => if x5 < (x0.length : Int) then (if 0 ≤ x5 then (if x5 < (x1.length : Int) then ((spec_l09Less.f ((rd_T94 x0 x5).f0) ((rd_T94 x0 x5).f1) ((rd_T94 x0 x5).f2) ((rd_T94 x1 x5).f0) ((rd_T94 x1 x5).f1) ((rd_T94 x1 x5).f2)).bind fun t490 => (if t490 = true then (some (-1)) else ((spec_l09Less.f ((rd_T94 x1 x5).f0) ((rd_T94 x1 x5).f1) ((rd_T94 x1 x5).f2) ((rd_T94 x0 x5).f0) ((rd_T94 x0 x5).f1) ((rd_T94 x0 x5).f2)).bind fun t493 => (if t493 = true then (some 1) else (spec_l09Compare.l0 k x0 x1 (wrap64 (x5 + 1))))))) else (none)) else (none)) else (some 0)
def spec_l09Compare.f (k : Nat) (l0 : List (S94)) (l1 : List (S94)) : Option (Int) := if (l0.length : Int) = (l1.length : Int) then (spec_l09Compare.l0 k l0 l1 0) else (if (l0.length : Int) < (l1.length : Int) then (some (-1)) else (some 1))
def spec_l09Compare.T8 : Bool × List (List Nat × List Nat) := (true, [([], []), ([], []), ([0, 1], [0, 1]), ([2], [2]), ([], []), ([], []), ([4, 5], [4, 5]), ([6], [6]), ([3, 7], [3, 7])])
def spec_l09Compare.B8 : List Nat := [0, 0, 3, 7, 0, 0, 48, 112, 255]
theorem spec_l09Compare.tab8 : rtab .any (opsOf Try.f121 8) = spec_l09Compare.T8 := by kernel_rfl
theorem spec_l09Compare.bits8 : waitsOk spec_l09Compare.T8.2 spec_l09Compare.B8 = true := by kernel_rfl
def spec_l09Compare.T10 : Bool × List (List Nat × List Nat) := (true, [([], []), ([], []), ([0, 1], [0, 1]), ([2], [2]), ([], []), ([], []), ([4, 5], [4, 5]), ([6], [6]), ([3, 7], [3, 7])])
def spec_l09Compare.B10 : List Nat := [0, 0, 3, 7, 0, 0, 48, 112, 255]
theorem spec_l09Compare.tab10 : rtab .any (opsOf Try.f121 10) = spec_l09Compare.T10 := by kernel_rfl
theorem spec_l09Compare.bits10 : waitsOk spec_l09Compare.T10.2 spec_l09Compare.B10 = true := by kernel_rfl
set_option maxHeartbeats 8000000 in
set_option maxRecDepth 100000 in
theorem spec_l09Compare.calls (k : Nat) (A0 : Option Addr) (c0 : Nat) (l0 : List (S94)) (A1 : Option Addr) (c1 : Nat) (l1 : List (S94)) (r : Int) (w : World) (hr0 : Kd.C k94 w A0 l0.length l0) (hc0 : l0.length ≤ c0) (hr1 : Kd.C k94 w A1 l1.length l1) (hc1 : l1.length ≤ c1) (h : spec_l09Compare.f k l0 l1 = some r) :
    Calls Try.prog 121 #[.slice A0 l0.length c0, .slice A1 l1.length c1] w fun e w' => e = .returned (.int .i64 r) ∧ Below w.heap.size w w' := by
 (have hu94 := Try.underlying94); (have HR0 := A0_ hr0); (have HC0 := A0_ hc0); clear hr0 hc0; (have HR1 := A0_ hr1); (have HC1 := A0_ hc1); clear hr1 hc1; (have HB := A0_ (Below.refl w.heap.size w)); (have H : (if (l0.length : Int) = (l1.length : Int) then (spec_l09Compare.l0 k l0 l1 0) else (if (l0.length : Int) < (l1.length : Int) then (some (-1)) else (some 1))) = some r := h); clear h; (by_cases c3 : (l0.length : Int) = (l1.length : Int))
 ·(rw [if_pos c3] at H); (have c3b0 : ((l0.length : Int) == (l1.length : Int)) = true := beq_iff_eq.mpr c3); (have c3b1 : ((l0.length : Int) != (l1.length : Int)) = false := bne_eq_false_iff_eq.mpr c3); (have c3b2 : (l0.length == l1.length) = true := by first | simpa using c3 | (simp at c3 ⊢; omega)); clear c3; (have H' := A0_ H); clear H; (go_enter Try.func121, Try.ntmps121); go_wp2
  go_loopg [5] k (fun kq v5 w' => ∃ (x5_1 : Int), v5 = .int .i64 x5_1 ∧ Aside0 (spec_l09Compare.l0 kq l0 l1 x5_1 = some r) ∧ Aside0 (kq ≤ k) ∧ Aside0 (Below w.heap.size w w'))
  case atStart => exact ⟨(0), (by first | rfl | (simp; done) | (simp [*]; done)), H', ⟨Nat.le_refl _⟩, ⟨by repeat (first | (with_reducible first | exact HB.out | apply ba_ | apply bn_ | apply bd_) | exact HB.out)⟩⟩
  case round =>
   clear H'; (try clear c1); (try clear p2); (try clear c3); (try clear c3b0); (try clear c3b1); (try clear c3b2); (obtain ⟨x5_1, rfl, HA, HK1, HB⟩ := hrel)
   cases gk with
   | zero => exact absurd HA.out (by simp [spec_l09Compare.l0])
   | succ k1 =>
    (have H := HA.out); clear HA; (simp only [spec_l09Compare.l0] at H); (by_cases c4 : x5_1 < (l0.length : Int))
    ·(rw [if_pos c4] at H); (have c4b0 : decide (x5_1 < (l0.length : Int)) = true := decide_eq_true c4); clear c4; (by_cases c5 : 0 ≤ x5_1)
     ·(rw [if_pos c5] at H); (have c5b0 : decide (0 ≤ x5_1) = true := decide_eq_true c5); clear c5; (by_cases c6 : x5_1 < (l1.length : Int))
      ·(rw [if_pos c6] at H); (have c6b0 : decide (x5_1 < (l1.length : Int)) = true := decide_eq_true c6); clear c6; (replace H := Option.bind_eq_some_iff.mp H); (obtain ⟨t490, A70, H⟩ := H); (try dsimp only at H); (have A7 := A0_ A70); clear A70; (by_cases c8 : t490 = true)
       ·subst c8; (have H1 := H); (rw [if_pos rfl] at H1); clear H; (have H := H1); clear H1; (obtain rfl := Option.some.inj H); (try go_wp2); (replace HB := A0_ (below_drew1 HB.out)); (have p488 : 0 ≤ (x5_1 : Int) := of_decide_eq_true as_); (have q488 : x5_1 < (l0.length : Int) := of_decide_eq_true as_); (obtain ⟨ad488, e488, hx488_0, hx488_1, hx488_2⟩ := at_T94 HR0.out x5_1 p488 q488); (have hw488_2 := hx488_2); (have hw488_1 := hx488_1); (have hw488_0 := hx488_0); (cases e488); (replace hx488_0 := (HB.out.cell (World.block_lt_of_cell? w _ hx488_0)).trans hx488_0); (replace hx488_1 := (HB.out.cell (World.block_lt_of_cell? w _ hx488_1)).trans hx488_1); (replace hx488_2 := (HB.out.cell (World.block_lt_of_cell? w _ hx488_2)).trans hx488_2); (replace p488 := eq_true p488); (replace q488 := eq_true q488); (have p489 : 0 ≤ (x5_1 : Int) := of_decide_eq_true as_); (have q489 : x5_1 < (l1.length : Int) := of_decide_eq_true as_); (obtain ⟨ad489, e489, hx489_0, hx489_1, hx489_2⟩ := at_T94 HR1.out x5_1 p489 q489); (have hw489_2 := hx489_2); (have hw489_1 := hx489_1); (have hw489_0 := hx489_0); (cases e489); (replace hx489_0 := (HB.out.cell (World.block_lt_of_cell? w _ hx489_0)).trans hx489_0); (replace hx489_1 := (HB.out.cell (World.block_lt_of_cell? w _ hx489_1)).trans hx489_1); (replace hx489_2 := (HB.out.cell (World.block_lt_of_cell? w _ hx489_2)).trans hx489_2); (replace p489 := eq_true p489); (replace q489 := eq_true q489)
        refine start_ (n := 9) (S := fun w' => w'.cell? (ad488.add ((x5_1).toNat * 3)) = some (.int .i64 ((rd_T94 l0 x5_1).f0)) ∧ w'.cell? ⟨(ad488.add ((x5_1).toNat * 3)).block, (ad488.add ((x5_1).toNat * 3)).off + 1, none⟩ = some (.int .i64 ((rd_T94 l0 x5_1).f1)) ∧ w'.cell? ⟨(ad488.add ((x5_1).toNat * 3)).block, (ad488.add ((x5_1).toNat * 3)).off + 2, none⟩ = some (.int .i64 ((rd_T94 l0 x5_1).f2)) ∧ w'.cell? (ad489.add ((x5_1).toNat * 3)) = some (.int .i64 ((rd_T94 l1 x5_1).f0)) ∧ w'.cell? ⟨(ad489.add ((x5_1).toNat * 3)).block, (ad489.add ((x5_1).toNat * 3)).off + 1, none⟩ = some (.int .i64 ((rd_T94 l1 x5_1).f1)) ∧ w'.cell? ⟨(ad489.add ((x5_1).toNat * 3)).block, (ad489.add ((x5_1).toNat * 3)).off + 2, none⟩ = some (.int .i64 ((rd_T94 l1 x5_1).f2))) (ds := []) #[ff,ff,ff,ff,ff,ff,ff,ff,ff] (by kernel_rfl) rfl rfl ⟨((HB.out.cell (World.block_lt_of_cell? w _ hw488_0)).trans hw488_0), ((HB.out.cell (World.block_lt_of_cell? w _ hw488_1)).trans hw488_1), ((HB.out.cell (World.block_lt_of_cell? w _ hw488_2)).trans hw488_2), ((HB.out.cell (World.block_lt_of_cell? w _ hw489_0)).trans hw489_0), ((HB.out.cell (World.block_lt_of_cell? w _ hw489_1)).trans hw489_1), ((HB.out.cell (World.block_lt_of_cell? w _ hw489_2)).trans hw489_2)⟩ (fun hHeld => ?_); refine with_tabW spec_l09Compare.tab8 spec_l09Compare.bits8 (fun HT_ HW_ => ?_)
        (generalize wr.drew = w9 at HB hx488_0 hx488_1 hx488_2 hx489_0 hx489_1 hx489_2 hHeld ⊢); (refine on_ 0 (some 22) ?_); (refine on_ 1 (some 23) ?_); (refine on_ 2 (some 24) ?_); (refine on_ 4 (some 26) ?_); (refine on_ 5 (some 27) ?_); (refine on_ 6 (some 28) ?_); (refine tk_ 3 (some 25) ?_); (refine tk_ 7 (some 29) ?_)
        refine o1_ 8 (some 30) (fun K hK => ?_)
        (refine gs_ Try.func109 #[.agg #[.int .i64 ((rd_T94 l0 x5_1).f0), .int .i64 ((rd_T94 l0 x5_1).f1), .int .i64 ((rd_T94 l0 x5_1).f2)], .agg #[.int .i64 ((rd_T94 l1 x5_1).f0), .int .i64 ((rd_T94 l1 x5_1).f1), .int .i64 ((rd_T94 l1 x5_1).f2)]] ?_); (with_reducible refine (spec_l09Less.calls ((rd_T94 l0 x5_1).f0) ((rd_T94 l0 x5_1).f1) ((rd_T94 l0 x5_1).f2) ((rd_T94 l1 x5_1).f0) ((rd_T94 l1 x5_1).f1) ((rd_T94 l1 x5_1).f2) true _ A7.out).mono ?_); (rintro e w10 ⟨rfl, hb⟩); (refine ⟨_, rfl, ?_⟩); (replace HB := A0_ (below_step bw_ hb)); ((try clear hb)); ((try clear hb2)); ((try clear hk)); ((try clear hi))
        refine hK.out _ _ ⟨((HB.out.cell (World.block_lt_of_cell? w _ hw488_0)).trans hw488_0), ((HB.out.cell (World.block_lt_of_cell? w _ hw488_1)).trans hw488_1), ((HB.out.cell (World.block_lt_of_cell? w _ hw488_2)).trans hw488_2), ((HB.out.cell (World.block_lt_of_cell? w _ hw489_0)).trans hw489_0), ((HB.out.cell (World.block_lt_of_cell? w _ hw489_1)).trans hw489_1), ((HB.out.cell (World.block_lt_of_cell? w _ hw489_2)).trans hw489_2)⟩ (fun hHeld => ?_)
        clear hK K; (refine nm_ (some 30) ?_); (refine dn_ ?_); (try go_wp2); go_ret; (exact ⟨er_, bx_⟩)
       ·(replace c8 := Bool.eq_false_iff.mpr c8); subst c8
        have H1 : ((spec_l09Less.f ((rd_T94 l1 x5_1).f0) ((rd_T94 l1 x5_1).f1) ((rd_T94 l1 x5_1).f2) ((rd_T94 l0 x5_1).f0) ((rd_T94 l0 x5_1).f1) ((rd_T94 l0 x5_1).f2)).bind fun t493 => (if t493 = true then (some 1) else (spec_l09Compare.l0 k1 l0 l1 (wrap64 (x5_1 + 1))))) = some r := by rw [if_neg (show ¬ (false = true) by decide)] at H; exact H
        clear H; (have H := H1); clear H1; (replace H := Option.bind_eq_some_iff.mp H); (obtain ⟨t493, A110, H⟩ := H); (try dsimp only at H); (have A11 := A0_ A110); clear A110; (by_cases c12 : t493 = true)
        ·subst c12; (have H1 := H); (rw [if_pos rfl] at H1); clear H; (have H := H1); clear H1; (obtain rfl := Option.some.inj H); (try go_wp2); (replace HB := A0_ (below_drew1 HB.out)); (have p488 : 0 ≤ (x5_1 : Int) := of_decide_eq_true as_); (have q488 : x5_1 < (l0.length : Int) := of_decide_eq_true as_); (obtain ⟨ad488, e488, hx488_0, hx488_1, hx488_2⟩ := at_T94 HR0.out x5_1 p488 q488); (have hw488_2 := hx488_2); (have hw488_1 := hx488_1); (have hw488_0 := hx488_0); (cases e488); (replace hx488_0 := (HB.out.cell (World.block_lt_of_cell? w _ hx488_0)).trans hx488_0); (replace hx488_1 := (HB.out.cell (World.block_lt_of_cell? w _ hx488_1)).trans hx488_1); (replace hx488_2 := (HB.out.cell (World.block_lt_of_cell? w _ hx488_2)).trans hx488_2); (replace p488 := eq_true p488); (replace q488 := eq_true q488); (have p489 : 0 ≤ (x5_1 : Int) := of_decide_eq_true as_); (have q489 : x5_1 < (l1.length : Int) := of_decide_eq_true as_); (obtain ⟨ad489, e489, hx489_0, hx489_1, hx489_2⟩ := at_T94 HR1.out x5_1 p489 q489); (have hw489_2 := hx489_2); (have hw489_1 := hx489_1); (have hw489_0 := hx489_0); (cases e489); (replace hx489_0 := (HB.out.cell (World.block_lt_of_cell? w _ hx489_0)).trans hx489_0); (replace hx489_1 := (HB.out.cell (World.block_lt_of_cell? w _ hx489_1)).trans hx489_1); (replace hx489_2 := (HB.out.cell (World.block_lt_of_cell? w _ hx489_2)).trans hx489_2); (replace p489 := eq_true p489); (replace q489 := eq_true q489)
         refine start_ (n := 9) (S := fun w' => w'.cell? (ad488.add ((x5_1).toNat * 3)) = some (.int .i64 ((rd_T94 l0 x5_1).f0)) ∧ w'.cell? ⟨(ad488.add ((x5_1).toNat * 3)).block, (ad488.add ((x5_1).toNat * 3)).off + 1, none⟩ = some (.int .i64 ((rd_T94 l0 x5_1).f1)) ∧ w'.cell? ⟨(ad488.add ((x5_1).toNat * 3)).block, (ad488.add ((x5_1).toNat * 3)).off + 2, none⟩ = some (.int .i64 ((rd_T94 l0 x5_1).f2)) ∧ w'.cell? (ad489.add ((x5_1).toNat * 3)) = some (.int .i64 ((rd_T94 l1 x5_1).f0)) ∧ w'.cell? ⟨(ad489.add ((x5_1).toNat * 3)).block, (ad489.add ((x5_1).toNat * 3)).off + 1, none⟩ = some (.int .i64 ((rd_T94 l1 x5_1).f1)) ∧ w'.cell? ⟨(ad489.add ((x5_1).toNat * 3)).block, (ad489.add ((x5_1).toNat * 3)).off + 2, none⟩ = some (.int .i64 ((rd_T94 l1 x5_1).f2))) (ds := []) #[ff,ff,ff,ff,ff,ff,ff,ff,ff] (by kernel_rfl) rfl rfl ⟨((HB.out.cell (World.block_lt_of_cell? w _ hw488_0)).trans hw488_0), ((HB.out.cell (World.block_lt_of_cell? w _ hw488_1)).trans hw488_1), ((HB.out.cell (World.block_lt_of_cell? w _ hw488_2)).trans hw488_2), ((HB.out.cell (World.block_lt_of_cell? w _ hw489_0)).trans hw489_0), ((HB.out.cell (World.block_lt_of_cell? w _ hw489_1)).trans hw489_1), ((HB.out.cell (World.block_lt_of_cell? w _ hw489_2)).trans hw489_2)⟩ (fun hHeld => ?_); refine with_tabW spec_l09Compare.tab8 spec_l09Compare.bits8 (fun HT_ HW_ => ?_)
         (generalize wr.drew = w13 at HB hx488_0 hx488_1 hx488_2 hx489_0 hx489_1 hx489_2 hHeld ⊢); (refine on_ 0 (some 22) ?_); (refine on_ 1 (some 23) ?_); (refine on_ 2 (some 24) ?_); (refine on_ 4 (some 26) ?_); (refine on_ 5 (some 27) ?_); (refine on_ 6 (some 28) ?_); (refine tk_ 3 (some 25) ?_); (refine tk_ 7 (some 29) ?_)
         refine o1_ 8 (some 30) (fun K hK => ?_)
         (refine gs_ Try.func109 #[.agg #[.int .i64 ((rd_T94 l0 x5_1).f0), .int .i64 ((rd_T94 l0 x5_1).f1), .int .i64 ((rd_T94 l0 x5_1).f2)], .agg #[.int .i64 ((rd_T94 l1 x5_1).f0), .int .i64 ((rd_T94 l1 x5_1).f1), .int .i64 ((rd_T94 l1 x5_1).f2)]] ?_); (with_reducible refine (spec_l09Less.calls ((rd_T94 l0 x5_1).f0) ((rd_T94 l0 x5_1).f1) ((rd_T94 l0 x5_1).f2) ((rd_T94 l1 x5_1).f0) ((rd_T94 l1 x5_1).f1) ((rd_T94 l1 x5_1).f2) false _ A7.out).mono ?_); (rintro e w14 ⟨rfl, hb⟩); (refine ⟨_, rfl, ?_⟩); (replace HB := A0_ (below_step bw_ hb)); ((try clear hb)); ((try clear hb2)); ((try clear hk)); ((try clear hi))
         refine hK.out _ _ ⟨((HB.out.cell (World.block_lt_of_cell? w _ hw488_0)).trans hw488_0), ((HB.out.cell (World.block_lt_of_cell? w _ hw488_1)).trans hw488_1), ((HB.out.cell (World.block_lt_of_cell? w _ hw488_2)).trans hw488_2), ((HB.out.cell (World.block_lt_of_cell? w _ hw489_0)).trans hw489_0), ((HB.out.cell (World.block_lt_of_cell? w _ hw489_1)).trans hw489_1), ((HB.out.cell (World.block_lt_of_cell? w _ hw489_2)).trans hw489_2)⟩ (fun hHeld => ?_)
         clear hK K; (refine nm_ (some 30) ?_); (refine dn_ ?_); (try go_wp2); (replace HB := A0_ (below_drew1 HB.out)); (have p491 : 0 ≤ (x5_1 : Int) := of_decide_eq_true as_); (have q491 : x5_1 < (l1.length : Int) := of_decide_eq_true as_); (obtain ⟨ad491, e491, hx491_0, hx491_1, hx491_2⟩ := at_T94 HR1.out x5_1 p491 q491); (have hw491_2 := hx491_2); (have hw491_1 := hx491_1); (have hw491_0 := hx491_0); (obtain rfl : ad489 = ad491 := (by injection e491)); (replace hx491_0 := (HB.out.cell (World.block_lt_of_cell? w _ hx491_0)).trans hx491_0); (replace hx491_1 := (HB.out.cell (World.block_lt_of_cell? w _ hx491_1)).trans hx491_1); (replace hx491_2 := (HB.out.cell (World.block_lt_of_cell? w _ hx491_2)).trans hx491_2); (replace p491 := eq_true p491); (replace q491 := eq_true q491); (have p492 : 0 ≤ (x5_1 : Int) := of_decide_eq_true as_); (have q492 : x5_1 < (l0.length : Int) := of_decide_eq_true as_); (obtain ⟨ad492, e492, hx492_0, hx492_1, hx492_2⟩ := at_T94 HR0.out x5_1 p492 q492); (have hw492_2 := hx492_2); (have hw492_1 := hx492_1); (have hw492_0 := hx492_0); (obtain rfl : ad488 = ad492 := (by injection e492)); (replace hx492_0 := (HB.out.cell (World.block_lt_of_cell? w _ hx492_0)).trans hx492_0); (replace hx492_1 := (HB.out.cell (World.block_lt_of_cell? w _ hx492_1)).trans hx492_1); (replace hx492_2 := (HB.out.cell (World.block_lt_of_cell? w _ hx492_2)).trans hx492_2); (replace p492 := eq_true p492); (replace q492 := eq_true q492)
         refine start_ (n := 9) (S := fun w' => w'.cell? (ad489.add ((x5_1).toNat * 3)) = some (.int .i64 ((rd_T94 l1 x5_1).f0)) ∧ w'.cell? ⟨(ad489.add ((x5_1).toNat * 3)).block, (ad489.add ((x5_1).toNat * 3)).off + 1, none⟩ = some (.int .i64 ((rd_T94 l1 x5_1).f1)) ∧ w'.cell? ⟨(ad489.add ((x5_1).toNat * 3)).block, (ad489.add ((x5_1).toNat * 3)).off + 2, none⟩ = some (.int .i64 ((rd_T94 l1 x5_1).f2)) ∧ w'.cell? (ad488.add ((x5_1).toNat * 3)) = some (.int .i64 ((rd_T94 l0 x5_1).f0)) ∧ w'.cell? ⟨(ad488.add ((x5_1).toNat * 3)).block, (ad488.add ((x5_1).toNat * 3)).off + 1, none⟩ = some (.int .i64 ((rd_T94 l0 x5_1).f1)) ∧ w'.cell? ⟨(ad488.add ((x5_1).toNat * 3)).block, (ad488.add ((x5_1).toNat * 3)).off + 2, none⟩ = some (.int .i64 ((rd_T94 l0 x5_1).f2))) (ds := []) #[ff,ff,ff,ff,ff,ff,ff,ff,ff] (by kernel_rfl) rfl rfl ⟨((HB.out.cell (World.block_lt_of_cell? w _ hw491_0)).trans hw491_0), ((HB.out.cell (World.block_lt_of_cell? w _ hw491_1)).trans hw491_1), ((HB.out.cell (World.block_lt_of_cell? w _ hw491_2)).trans hw491_2), ((HB.out.cell (World.block_lt_of_cell? w _ hw492_0)).trans hw492_0), ((HB.out.cell (World.block_lt_of_cell? w _ hw492_1)).trans hw492_1), ((HB.out.cell (World.block_lt_of_cell? w _ hw492_2)).trans hw492_2)⟩ (fun hHeld => ?_); refine with_tabW spec_l09Compare.tab10 spec_l09Compare.bits10 (fun HT_ HW_ => ?_)
         (generalize w14.drew = w15 at HB hx491_0 hx491_1 hx491_2 hx492_0 hx492_1 hx492_2 hHeld ⊢); (refine on_ 0 (some 31) ?_); (refine on_ 1 (some 32) ?_); (refine on_ 2 (some 33) ?_); (refine on_ 4 (some 35) ?_); (refine on_ 5 (some 36) ?_); (refine on_ 6 (some 37) ?_); (refine tk_ 3 (some 34) ?_); (refine tk_ 7 (some 38) ?_)
         refine o1_ 8 (some 39) (fun K hK => ?_)
         (refine gs_ Try.func109 #[.agg #[.int .i64 ((rd_T94 l1 x5_1).f0), .int .i64 ((rd_T94 l1 x5_1).f1), .int .i64 ((rd_T94 l1 x5_1).f2)], .agg #[.int .i64 ((rd_T94 l0 x5_1).f0), .int .i64 ((rd_T94 l0 x5_1).f1), .int .i64 ((rd_T94 l0 x5_1).f2)]] ?_); (with_reducible refine (spec_l09Less.calls ((rd_T94 l1 x5_1).f0) ((rd_T94 l1 x5_1).f1) ((rd_T94 l1 x5_1).f2) ((rd_T94 l0 x5_1).f0) ((rd_T94 l0 x5_1).f1) ((rd_T94 l0 x5_1).f2) true _ A11.out).mono ?_); (rintro e w16 ⟨rfl, hb⟩); (refine ⟨_, rfl, ?_⟩); (replace HB := A0_ (below_step bw_ hb)); ((try clear hb)); ((try clear hb2)); ((try clear hk)); ((try clear hi))
         refine hK.out _ _ ⟨((HB.out.cell (World.block_lt_of_cell? w _ hw491_0)).trans hw491_0), ((HB.out.cell (World.block_lt_of_cell? w _ hw491_1)).trans hw491_1), ((HB.out.cell (World.block_lt_of_cell? w _ hw491_2)).trans hw491_2), ((HB.out.cell (World.block_lt_of_cell? w _ hw492_0)).trans hw492_0), ((HB.out.cell (World.block_lt_of_cell? w _ hw492_1)).trans hw492_1), ((HB.out.cell (World.block_lt_of_cell? w _ hw492_2)).trans hw492_2)⟩ (fun hHeld => ?_)
         clear hK K; (refine nm_ (some 39) ?_); (refine dn_ ?_); (try go_wp2); go_ret; (exact ⟨er_, bx_⟩)
        ·(replace c12 := Bool.eq_false_iff.mpr c12); subst c12; (have H1 : (spec_l09Compare.l0 k1 l0 l1 (wrap64 (x5_1 + 1))) = some r := by rw [if_neg (show ¬ (false = true) by decide)] at H; exact H); clear H; (have H := H1); clear H1; (have H' := A0_ H); clear H; (try go_wp2); (replace HB := A0_ (below_drew1 HB.out)); (have p488 : 0 ≤ (x5_1 : Int) := of_decide_eq_true as_); (have q488 : x5_1 < (l0.length : Int) := of_decide_eq_true as_); (obtain ⟨ad488, e488, hx488_0, hx488_1, hx488_2⟩ := at_T94 HR0.out x5_1 p488 q488); (have hw488_2 := hx488_2); (have hw488_1 := hx488_1); (have hw488_0 := hx488_0); (cases e488); (replace hx488_0 := (HB.out.cell (World.block_lt_of_cell? w _ hx488_0)).trans hx488_0); (replace hx488_1 := (HB.out.cell (World.block_lt_of_cell? w _ hx488_1)).trans hx488_1); (replace hx488_2 := (HB.out.cell (World.block_lt_of_cell? w _ hx488_2)).trans hx488_2); (replace p488 := eq_true p488); (replace q488 := eq_true q488); (have p489 : 0 ≤ (x5_1 : Int) := of_decide_eq_true as_); (have q489 : x5_1 < (l1.length : Int) := of_decide_eq_true as_); (obtain ⟨ad489, e489, hx489_0, hx489_1, hx489_2⟩ := at_T94 HR1.out x5_1 p489 q489); (have hw489_2 := hx489_2); (have hw489_1 := hx489_1); (have hw489_0 := hx489_0); (cases e489); (replace hx489_0 := (HB.out.cell (World.block_lt_of_cell? w _ hx489_0)).trans hx489_0); (replace hx489_1 := (HB.out.cell (World.block_lt_of_cell? w _ hx489_1)).trans hx489_1); (replace hx489_2 := (HB.out.cell (World.block_lt_of_cell? w _ hx489_2)).trans hx489_2); (replace p489 := eq_true p489); (replace q489 := eq_true q489)
         refine start_ (n := 9) (S := fun w' => w'.cell? (ad488.add ((x5_1).toNat * 3)) = some (.int .i64 ((rd_T94 l0 x5_1).f0)) ∧ w'.cell? ⟨(ad488.add ((x5_1).toNat * 3)).block, (ad488.add ((x5_1).toNat * 3)).off + 1, none⟩ = some (.int .i64 ((rd_T94 l0 x5_1).f1)) ∧ w'.cell? ⟨(ad488.add ((x5_1).toNat * 3)).block, (ad488.add ((x5_1).toNat * 3)).off + 2, none⟩ = some (.int .i64 ((rd_T94 l0 x5_1).f2)) ∧ w'.cell? (ad489.add ((x5_1).toNat * 3)) = some (.int .i64 ((rd_T94 l1 x5_1).f0)) ∧ w'.cell? ⟨(ad489.add ((x5_1).toNat * 3)).block, (ad489.add ((x5_1).toNat * 3)).off + 1, none⟩ = some (.int .i64 ((rd_T94 l1 x5_1).f1)) ∧ w'.cell? ⟨(ad489.add ((x5_1).toNat * 3)).block, (ad489.add ((x5_1).toNat * 3)).off + 2, none⟩ = some (.int .i64 ((rd_T94 l1 x5_1).f2))) (ds := []) #[ff,ff,ff,ff,ff,ff,ff,ff,ff] (by kernel_rfl) rfl rfl ⟨((HB.out.cell (World.block_lt_of_cell? w _ hw488_0)).trans hw488_0), ((HB.out.cell (World.block_lt_of_cell? w _ hw488_1)).trans hw488_1), ((HB.out.cell (World.block_lt_of_cell? w _ hw488_2)).trans hw488_2), ((HB.out.cell (World.block_lt_of_cell? w _ hw489_0)).trans hw489_0), ((HB.out.cell (World.block_lt_of_cell? w _ hw489_1)).trans hw489_1), ((HB.out.cell (World.block_lt_of_cell? w _ hw489_2)).trans hw489_2)⟩ (fun hHeld => ?_); refine with_tabW spec_l09Compare.tab8 spec_l09Compare.bits8 (fun HT_ HW_ => ?_)
         (generalize wr.drew = w17 at HB hx488_0 hx488_1 hx488_2 hx489_0 hx489_1 hx489_2 hHeld ⊢); (refine on_ 0 (some 22) ?_); (refine on_ 1 (some 23) ?_); (refine on_ 2 (some 24) ?_); (refine on_ 4 (some 26) ?_); (refine on_ 5 (some 27) ?_); (refine on_ 6 (some 28) ?_); (refine tk_ 3 (some 25) ?_); (refine tk_ 7 (some 29) ?_)
         refine o1_ 8 (some 30) (fun K hK => ?_)
         (refine gs_ Try.func109 #[.agg #[.int .i64 ((rd_T94 l0 x5_1).f0), .int .i64 ((rd_T94 l0 x5_1).f1), .int .i64 ((rd_T94 l0 x5_1).f2)], .agg #[.int .i64 ((rd_T94 l1 x5_1).f0), .int .i64 ((rd_T94 l1 x5_1).f1), .int .i64 ((rd_T94 l1 x5_1).f2)]] ?_); (with_reducible refine (spec_l09Less.calls ((rd_T94 l0 x5_1).f0) ((rd_T94 l0 x5_1).f1) ((rd_T94 l0 x5_1).f2) ((rd_T94 l1 x5_1).f0) ((rd_T94 l1 x5_1).f1) ((rd_T94 l1 x5_1).f2) false _ A7.out).mono ?_); (rintro e w18 ⟨rfl, hb⟩); (refine ⟨_, rfl, ?_⟩); (replace HB := A0_ (below_step bw_ hb)); ((try clear hb)); ((try clear hb2)); ((try clear hk)); ((try clear hi))
         refine hK.out _ _ ⟨((HB.out.cell (World.block_lt_of_cell? w _ hw488_0)).trans hw488_0), ((HB.out.cell (World.block_lt_of_cell? w _ hw488_1)).trans hw488_1), ((HB.out.cell (World.block_lt_of_cell? w _ hw488_2)).trans hw488_2), ((HB.out.cell (World.block_lt_of_cell? w _ hw489_0)).trans hw489_0), ((HB.out.cell (World.block_lt_of_cell? w _ hw489_1)).trans hw489_1), ((HB.out.cell (World.block_lt_of_cell? w _ hw489_2)).trans hw489_2)⟩ (fun hHeld => ?_)
         clear hK K; (refine nm_ (some 30) ?_); (refine dn_ ?_); (try go_wp2); (replace HB := A0_ (below_drew1 HB.out)); (have p491 : 0 ≤ (x5_1 : Int) := of_decide_eq_true as_); (have q491 : x5_1 < (l1.length : Int) := of_decide_eq_true as_); (obtain ⟨ad491, e491, hx491_0, hx491_1, hx491_2⟩ := at_T94 HR1.out x5_1 p491 q491); (have hw491_2 := hx491_2); (have hw491_1 := hx491_1); (have hw491_0 := hx491_0); (obtain rfl : ad489 = ad491 := (by injection e491)); (replace hx491_0 := (HB.out.cell (World.block_lt_of_cell? w _ hx491_0)).trans hx491_0); (replace hx491_1 := (HB.out.cell (World.block_lt_of_cell? w _ hx491_1)).trans hx491_1); (replace hx491_2 := (HB.out.cell (World.block_lt_of_cell? w _ hx491_2)).trans hx491_2); (replace p491 := eq_true p491); (replace q491 := eq_true q491); (have p492 : 0 ≤ (x5_1 : Int) := of_decide_eq_true as_); (have q492 : x5_1 < (l0.length : Int) := of_decide_eq_true as_); (obtain ⟨ad492, e492, hx492_0, hx492_1, hx492_2⟩ := at_T94 HR0.out x5_1 p492 q492); (have hw492_2 := hx492_2); (have hw492_1 := hx492_1); (have hw492_0 := hx492_0); (obtain rfl : ad488 = ad492 := (by injection e492)); (replace hx492_0 := (HB.out.cell (World.block_lt_of_cell? w _ hx492_0)).trans hx492_0); (replace hx492_1 := (HB.out.cell (World.block_lt_of_cell? w _ hx492_1)).trans hx492_1); (replace hx492_2 := (HB.out.cell (World.block_lt_of_cell? w _ hx492_2)).trans hx492_2); (replace p492 := eq_true p492); (replace q492 := eq_true q492)
         refine start_ (n := 9) (S := fun w' => w'.cell? (ad489.add ((x5_1).toNat * 3)) = some (.int .i64 ((rd_T94 l1 x5_1).f0)) ∧ w'.cell? ⟨(ad489.add ((x5_1).toNat * 3)).block, (ad489.add ((x5_1).toNat * 3)).off + 1, none⟩ = some (.int .i64 ((rd_T94 l1 x5_1).f1)) ∧ w'.cell? ⟨(ad489.add ((x5_1).toNat * 3)).block, (ad489.add ((x5_1).toNat * 3)).off + 2, none⟩ = some (.int .i64 ((rd_T94 l1 x5_1).f2)) ∧ w'.cell? (ad488.add ((x5_1).toNat * 3)) = some (.int .i64 ((rd_T94 l0 x5_1).f0)) ∧ w'.cell? ⟨(ad488.add ((x5_1).toNat * 3)).block, (ad488.add ((x5_1).toNat * 3)).off + 1, none⟩ = some (.int .i64 ((rd_T94 l0 x5_1).f1)) ∧ w'.cell? ⟨(ad488.add ((x5_1).toNat * 3)).block, (ad488.add ((x5_1).toNat * 3)).off + 2, none⟩ = some (.int .i64 ((rd_T94 l0 x5_1).f2))) (ds := []) #[ff,ff,ff,ff,ff,ff,ff,ff,ff] (by kernel_rfl) rfl rfl ⟨((HB.out.cell (World.block_lt_of_cell? w _ hw491_0)).trans hw491_0), ((HB.out.cell (World.block_lt_of_cell? w _ hw491_1)).trans hw491_1), ((HB.out.cell (World.block_lt_of_cell? w _ hw491_2)).trans hw491_2), ((HB.out.cell (World.block_lt_of_cell? w _ hw492_0)).trans hw492_0), ((HB.out.cell (World.block_lt_of_cell? w _ hw492_1)).trans hw492_1), ((HB.out.cell (World.block_lt_of_cell? w _ hw492_2)).trans hw492_2)⟩ (fun hHeld => ?_); refine with_tabW spec_l09Compare.tab10 spec_l09Compare.bits10 (fun HT_ HW_ => ?_)
         (generalize w18.drew = w19 at HB hx491_0 hx491_1 hx491_2 hx492_0 hx492_1 hx492_2 hHeld ⊢); (refine on_ 0 (some 31) ?_); (refine on_ 1 (some 32) ?_); (refine on_ 2 (some 33) ?_); (refine on_ 4 (some 35) ?_); (refine on_ 5 (some 36) ?_); (refine on_ 6 (some 37) ?_); (refine tk_ 3 (some 34) ?_); (refine tk_ 7 (some 38) ?_)
         refine o1_ 8 (some 39) (fun K hK => ?_)
         (refine gs_ Try.func109 #[.agg #[.int .i64 ((rd_T94 l1 x5_1).f0), .int .i64 ((rd_T94 l1 x5_1).f1), .int .i64 ((rd_T94 l1 x5_1).f2)], .agg #[.int .i64 ((rd_T94 l0 x5_1).f0), .int .i64 ((rd_T94 l0 x5_1).f1), .int .i64 ((rd_T94 l0 x5_1).f2)]] ?_); (with_reducible refine (spec_l09Less.calls ((rd_T94 l1 x5_1).f0) ((rd_T94 l1 x5_1).f1) ((rd_T94 l1 x5_1).f2) ((rd_T94 l0 x5_1).f0) ((rd_T94 l0 x5_1).f1) ((rd_T94 l0 x5_1).f2) false _ A11.out).mono ?_); (rintro e w20 ⟨rfl, hb⟩); (refine ⟨_, rfl, ?_⟩); (replace HB := A0_ (below_step bw_ hb)); ((try clear hb)); ((try clear hb2)); ((try clear hk)); ((try clear hi))
         refine hK.out _ _ ⟨((HB.out.cell (World.block_lt_of_cell? w _ hw491_0)).trans hw491_0), ((HB.out.cell (World.block_lt_of_cell? w _ hw491_1)).trans hw491_1), ((HB.out.cell (World.block_lt_of_cell? w _ hw491_2)).trans hw491_2), ((HB.out.cell (World.block_lt_of_cell? w _ hw492_0)).trans hw492_0), ((HB.out.cell (World.block_lt_of_cell? w _ hw492_1)).trans hw492_1), ((HB.out.cell (World.block_lt_of_cell? w _ hw492_2)).trans hw492_2)⟩ (fun hHeld => ?_)
         clear hK K; (refine nm_ (some 39) ?_); (refine dn_ ?_); (try go_wp2); (go_roundg k1)
         case measure => have := HK1.out; omega
         case rel => exact ⟨(wrap64 (x5_1 + 1)), (by first | rfl | (simp; done) | (simp [*]; done)), H', ⟨by have := HK1.out; omega⟩, ⟨by repeat (first | (with_reducible first | exact HB.out | apply ba_ | apply bn_ | apply bd_) | exact HB.out)⟩⟩
      ·(rw [if_neg c6] at H); (exact absurd H (by simp))
     ·(rw [if_neg c5] at H); (exact absurd H (by simp))
    ·(rw [if_neg c4] at H); (have c4b0 : decide (x5_1 < (l0.length : Int)) = false := decide_eq_false c4); clear c4; (obtain rfl := Option.some.inj H); go_wp2; go_ret; (exact ⟨er_, bx_⟩)
 ·(rw [if_neg c3] at H); (have c3b0 : ((l0.length : Int) == (l1.length : Int)) = false := beq_eq_false_iff_ne.mpr c3); (have c3b1 : ((l0.length : Int) != (l1.length : Int)) = true := bne_iff_ne.mpr c3); (have c3b2 : (l0.length == l1.length) = false := by first | simpa using c3 | (simp at c3 ⊢; omega)); (by_cases c21 : (l0.length : Int) < (l1.length : Int))
  ·(rw [if_pos c21] at H); (have c21b0 : decide ((l0.length : Int) < (l1.length : Int)) = true := decide_eq_true c21); (have c21b1 : decide (l0.length < l1.length) = true := decide_eq_true (Int.ofNat_lt.mp c21)); clear c21; (obtain rfl := Option.some.inj H); (go_enter Try.func121, Try.ntmps121); go_wp2; go_ret; (exact ⟨er_, bx_⟩)
  ·(rw [if_neg c21] at H); (have c21b0 : decide ((l0.length : Int) < (l1.length : Int)) = false := decide_eq_false c21)
   have c21b1 : decide (l0.length < l1.length) = false := decide_eq_false (fun h => c21 (Int.ofNat_lt.mpr h))
   clear c21; (obtain rfl := Option.some.inj H); (go_enter Try.func121, Try.ntmps121); go_wp2; go_ret; (exact ⟨er_, bx_⟩)
end
section
attribute [local go_sem] max2_int min2_int max_two min_two max_three min_three max_four min_four
def spec_l28Same.f (k : Nat) (l0 : List (S94)) (l1 : List (S94)) : Option (Bool) := (spec_l09Compare.f k l0 l1).bind fun t494 => (some (t494 == 0))
set_option maxHeartbeats 8000000 in
set_option maxRecDepth 100000 in
theorem spec_l28Same.calls (k : Nat) (A0 : Option Addr) (c0 : Nat) (l0 : List (S94)) (A1 : Option Addr) (c1 : Nat) (l1 : List (S94)) (r : Bool) (w : World) (hr0 : Kd.C k94 w A0 l0.length l0) (hc0 : l0.length ≤ c0) (hr1 : Kd.C k94 w A1 l1.length l1) (hc1 : l1.length ≤ c1) (h : spec_l28Same.f k l0 l1 = some r) :
    Calls Try.prog 119 #[.slice A0 l0.length c0, .slice A1 l1.length c1] w fun e w' => e = .returned (.bool r) ∧ Below w.heap.size w w' := by
 (have HR0 := A0_ hr0); (have HC0 := A0_ hc0); clear hr0 hc0; (have HR1 := A0_ hr1); (have HC1 := A0_ hc1); clear hr1 hc1; (have HB := A0_ (Below.refl w.heap.size w))
 have H : ((spec_l09Compare.f k l0 l1).bind fun t494 => (some (t494 == 0))) = some r := h
 clear h; (replace H := Option.bind_eq_some_iff.mp H); (obtain ⟨t494, A30, H⟩ := H); (try dsimp only at H); (have A3 := A0_ A30); clear A30; (have H0_ := A0_ H); clear H; (go_enter Try.func119, Try.ntmps119); (go_wp2_with (first | ((with_reducible refine gate_callee (f := 121) rfl ?_); refine gl_ (some 7) Try.func121 #[.slice A0 l0.length c0, .slice A1 l1.length c1] ?_; (with_reducible refine (spec_l09Compare.calls k _ _ l0 _ _ l1 t494 _ ?side1 ?side2 ?side3 ?side4 A3.out).mono ?_); (case side1 => exact kc_ HR0.out); (case side2 => exact HC0.out); (case side3 => exact kc_ HR1.out); (case side4 => exact HC1.out); rintro e w4 ⟨rfl, hb⟩; refine ⟨_, rfl, ?_⟩; replace HB := A0_ (below_step bw_ hb); (try clear hb); (try clear hb2); (try clear hk); (try clear hi); refine Stop0.out ?_))); (refine Stop0.mk ?_); (have H := H0_.out); clear H0_; (obtain rfl := Option.some.inj H); go_wp2; go_ret; (exact ⟨er_, bx_⟩)
end
abbrev Sl := Option Addr × Nat × Nat
theorem info28 : (Try.prog.info? 28).map (fun i => (i.zero, i.size, i.bytes)) = some (some (.slice none 0 0), 1, 24) := by kernel_rfl
def Res.poolG {α : Type} (d : Kd α) (e base : Nat) (L : List (Sl × List α)) : Res where
 P fp w := ∀ p ∈ L, d.R e w base fp (slV p.1) p.2
 mono h p q hq := Kd.R_mono (p q hq) h
 move h p q hq := (Res.row d e base (slV q.1) q.2).move h (p q hq)
theorem Sp.poolGC {α : Type} {d : Kd α} {e base : Nat} {w0 w : World} {rs : List Res} {i : Nat} {L : List (Sl × List α)} (h : Sp w0 rs w) (hi : rs[i]? = some (Res.poolG d e base L)) {p : Sl × List α} (hp : p ∈ L) : p.1.2.1 = p.2.length ∧ p.1.2.1 ≤ p.1.2.2 ∧ d.C w p.1.1 p.2.length p.2 := by
 obtain ⟨fp, hq, _⟩ := h.get hi
 have h1 := Kd.R_reads' (hq p hp)
 exact ⟨h1.1, h1.2.1, h1.2.2⟩
theorem Sp.poolGNil {α : Type} (d : Kd α) (e : Nat) {w0 w : World} {rs : List Res} (h : Sp w0 rs w) : Sp w0 (Res.poolG d e w0.heap.size [] :: rs) w := h.push (Below.refl _ _) (fun _ hp => by cases hp)
theorem Sp.poolGAdd {α : Type} {d : Kd α} {e base : Nat} {w0 w : World} {rs : List Res} {L : List (Sl × List α)} {A : Option Addr} {n c : Nat} {o : List α} (h : Sp w0 (Res.row d e base (.slice A n c) o :: Res.poolG d e base L :: rs) w) : Sp w0 (Res.poolG d e base (L ++ [((A, n, c), o)]) :: rs) w := by
 refine (Sp.star_close h).weak (i := 0) rfl (fun fp hp => ?_)
 obtain ⟨f1, f2, h1, h2, h3, h4⟩ := hp
 intro p hp
 rcases List.mem_append.1 hp with hp | hp
 ·exact Kd.R_mono (h2 p hp) (fun k hk => h4 k (.inr hk))
 ·obtain rfl := List.mem_singleton.1 hp
  exact Kd.R_mono h1 (fun k hk => h4 k (.inl hk))
theorem at_Sl {w : World} {A : Option Addr} {n : Nat} {xs : List Sl} (h : Kd.C kSl w A n xs) (i : Nat) (h1 : i < n) : ∃ ad , A = some ad ∧ w.cell? (ad.add i) = some (slV (xs.getD i (none, 0, 0))) := by
 obtain ⟨ad, c, e, _, hK, hc0⟩ := Kd.C_get h (none, 0, 0) (i : Int) (by omega) (by omega)
 rw [Int.toNat_natCast] at hK hc0
 have hc : ∀ j u, c[j]? = some u → w.cell? (ad.add (i * 1 + j)) = some u := hc0
 obtain rfl : c = [slV (xs.getD i (none, 0, 0))] := hK
 have := hc 0 _ rfl
 rw [Nat.mul_one, Nat.add_zero] at this
 exact ⟨ad, e, this⟩
theorem Sp.intCell {w0 w : World} {rs : List Res} {i e base n c : Nat} {ad : Addr} {xs : List Int} (h : Sp w0 rs w) (hi : rs[i]? = some (Res.row kI e base (.slice (some ad) n c) xs)) (j : Nat) (hj : j < n) : w.cell? (ad.add j) = some (.int .i64 (xs.getD j 0)) := by
 have hn := (Sp.reads h hi).1
 subst hn
 obtain ⟨ad2, e2, hx⟩ := Kd.at_int (Sp.reads h hi).2.2 (j : Int) (by omega) (by omega)
 injection e2 with e2
 subst e2
 rw [Int.toNat_natCast] at hx
 have e3 : rd xs (j : Int) = xs.getD j 0 := by rw [rd_nat xs j hj]; simp [List.getD_eq_getElem?_getD, hj]
 rw [e3] at hx
 exact hx
theorem Sp.slCell {w0 w : World} {rs : List Res} {i e base n c : Nat} {ad : Addr} {xs : List Sl} (h : Sp w0 rs w) (hi : rs[i]? = some (Res.row kSl e base (.slice (some ad) n c) xs)) (j : Nat) (hj : j < n) : w.cell? (ad.add j) = some (slV (xs.getD j (none, 0, 0))) := by
 have hn := (Sp.reads h hi).1
 subst hn
 obtain ⟨ad2, e2, hx⟩ := at_Sl (Sp.reads h hi).2.2 j hj
 injection e2 with e2
 subst e2
 exact hx
abbrev srBlk (gs : Nat) (Ao : Option Addr) (no co : Nat) (Aw : Option Addr) (nw cw : Nat) (full : Bool) : Res := Res.blk gs #[.slice Ao no co, .slice Aw nw cw, .bool full] 89
abbrev posR (base : Nat) (Ao : Option Addr) (co : Nat) (PS : List (Sl × List Cb)) : Res := Res.row kSl 35 base (.slice Ao PS.length co) (PS.map Prod.fst)
set_option maxHeartbeats 4000000 in
set_option maxRecDepth 100000 in
theorem known_calls (w0 : World) (gs : Nat) (Ao Aw : Option Addr) (co nw cw : Nat) (full : Bool) (PS : List (Sl × List Cb)) (hl : PS.length ≤ 1200) (r : Res) (An : Option Addr) (cn : Nat) (nx : List Cb) (hr : Rds w0 r An nx) (hcn : nx.length ≤ cn) (hsm : ∀ p ∈ PS, ∃ K, spec_l28Same.f K p.2 nx = some (decide (p.2 = nx))) (rest : List Res) (w : World)
  (hs : Sp w0 ([srBlk gs Ao PS.length co Aw nw cw full, posR w0.heap.size Ao co PS, Res.poolG kC 94 w0.heap.size PS, r] ++ rest) w) :
  Calls Try.prog 112 #[.pointer (some ⟨gs, 0, none⟩), .slice An nx.length cn] w fun e w' => e = .returned (.bool ((PS.map Prod.snd).contains nx)) ∧ Sp w0 ([srBlk gs Ao PS.length co Aw nw cw full, posR w0.heap.size Ao co PS, Res.poolG kC 94 w0.heap.size PS, r] ++ rest) w' := by
 have HS := A0_ hs
 have HL := A0_ hl
 have HRD := A0_ hr
 have HCN := A0_ hcn
 have HSM := A0_ hsm
 clear hs hl hr hcn hsm
 go_enter Try.func112, Try.ntmps112
 go_wp2
 go_loopg [5] (PS.length + 1) (fun kq v5 w' => ∃ (i : Nat), v5 = .int .i64 (i : Int) ∧ Aside0 (i ≤ PS.length ∧ kq + i = PS.length + 1 ∧ ∀ j (hj : j < PS.length), j < i → PS[j].2 ≠ nx) ∧ Aside0 (Sp w0 ([srBlk gs Ao PS.length co Aw nw cw full, posR w0.heap.size Ao co PS, Res.poolG kC 94 w0.heap.size PS, r] ++ rest) w'))
 case atStart => exact ⟨0, rfl, ⟨by omega, by omega, fun j hj h => by omega⟩, HS⟩
 case round =>
  clear HS
  obtain ⟨i, rfl, HX, HS⟩ := hrel
  obtain ⟨k1, rfl⟩ : ∃ k1, gk = k1 + 1 := ⟨gk - 1, by have := HX.out; omega⟩
  have hs0 : wr.cell? ⟨gs, 0, none⟩ = some (.slice Ao PS.length co) := (cl_ HS 0 0 rfl).trans rfl
  by_cases ci : i < PS.length
  ·have ci0 : decide (i < PS.length) = true := decide_eq_true ci
   have q0 : (0 ≤ (i : Int)) = True := eq_true (by omega)
   have q1 : ((i : Int) < (PS.length : Int)) = True := eq_true (by omega)
   obtain ⟨adp, e, hx⟩ := at_Sl (Sp.reads HS.out (i := 1) rfl).2.2 i (by rw [List.length_map]; exact ci)
   subst e
   have hin : PS[i] ∈ PS := List.getElem_mem ci
   have hgd : (PS.map Prod.fst).getD i (none, 0, 0) = PS[i].1 := by simp [List.getD_eq_getElem?_getD, ci]
   rw [hgd] at hx
   obtain ⟨g1, g2, g3⟩ := Sp.poolGC HS.out (i := 2) rfl hin
   obtain ⟨K, hK⟩ := HSM.out _ hin
   have HNX := A0_ (fun (h : PS[i].2 ≠ nx) j (hj : j < PS.length) (h2 : j < i + 1) => show PS[j].2 ≠ nx by
    by_cases c : j = i
    ·subst c; exact h
    ·exact HX.out.2.2 j hj (by omega))
   have HYES := A0_ (fun (h : PS[i].2 = nx) => show (PS.map Prod.snd).contains nx = true by
    rw [List.contains_iff_mem, List.mem_map]
    exact ⟨_, hin, h⟩)
   have HW := A0_ (wrap_succ i (by have := HL.out; omega))
   generalize PS[i] = p at hx g1 g2 g3 hK HNX HYES
   obtain ⟨⟨A1, n1, c1⟩, o⟩ := p
   dsimp only at hx g1 g2 g3 hK HNX HYES
   subst g1
   have HC1 := A0_ g3
   have HC2 := A0_ g2
   have HC3 := A0_ (Sp.rds HS.out (i := 3) rfl HRD.out)
   clear hgd hin ci g2 g3
   by_cases ce : o = nx
   ·rw [decide_eq_true ce] at hK
    have HK := A0_ hK
    have HY := A0_ (HYES.out ce)
    clear ce hK HNX HYES
    go_wp2_with (first
     | (go_at_call 119; refine (spec_l28Same.calls K A1 c1 o An cn nx true _ HC1.out HC2.out HC3.out HCN.out HK.out).mono ?_; rintro e wc_ ⟨rfl, hb_⟩; replace HS := A0_ (Sp.far HS.out hb_); clear hb_ hx hs0))
    go_ret
    exact ⟨by rw [HY.out]; rfl, HS.out⟩
   ·rw [decide_eq_false ce] at hK
    have HK := A0_ hK
    have HN := A0_ (HNX.out ce)
    clear ce hK HNX HYES
    go_wp2_with (first
     | (go_at_call 119; refine (spec_l28Same.calls K A1 c1 o An cn nx false _ HC1.out HC2.out HC3.out HCN.out HK.out).mono ?_; rintro e wc_ ⟨rfl, hb_⟩; replace HS := A0_ (Sp.far HS.out hb_); clear hb_ hx hs0))
    go_roundg k1
    case measure => omega
    case rel =>
     rw [HW.out]
     exact ⟨i + 1, rfl, ⟨by have := of_decide_eq_true ci0; omega, by have := HX.out; omega, HN.out⟩, HS⟩
  ·have ci0 : decide (i < PS.length) = false := decide_eq_false ci
   have HN := A0_ (show (PS.map Prod.snd).contains nx = false by
    rw [Bool.eq_false_iff]
    intro hc
    rw [List.contains_iff_mem, List.mem_map] at hc
    obtain ⟨p, hp, e⟩ := hc
    obtain ⟨j, hj, rfl⟩ := List.getElem_of_mem hp
    exact HX.out.2.2 j hj (by omega) e)
   clear ci
   go_wp2
   go_ret
   exact ⟨by rw [HN.out]; rfl, HS.out⟩
abbrev kC2 : Kd (List Cb) := Kd.slice 94 kC
def slOf : Value → Sl
 | .slice A n c => (A, n, c)
 | _ => (none, 0, 0)
abbrev rowsOf (base : Nat) (L : List (Sl × List Cb)) : List Res := L.map fun p => Res.row kC 94 base (slV p.1) p.2
theorem split_S {w w1 : World} {v : Value} {xss : List (List Cb)} (b : Nat) (hb0 : b ≤ w.heap.size) (hb : Below w.heap.size w w1) (hS : Kd.S kC2 35 w1 w.heap.size (fun _ => True) v xss) :
  ∃ L : List (Sl × List Cb), L.map Prod.snd = xss ∧ Sp w (Res.row kSl 35 b v (L.map Prod.fst) :: rowsOf b L) w1 := by
 obtain ⟨f, hR⟩ := hS
 obtain ⟨h0, inner, ho, hl, hr⟩ := Kd.R_bound hR
 have hl1 : inner.length = xss.length := by rw [hl, List.length_zipIdx]; exact Nat.mul_one _
 have he : ∀ j x, xss[j]? = some x → ∃ u, inner[j]? = some u ∧ slV (slOf u) = u ∧ kC.R 94 w1 w.heap.size (fun k => (w.heap.size ≤ k ∧ k < w1.heap.size) ∧ f k = j ∧ some k ≠ v.ownBlock) u x := by
  intro j x hx
  obtain ⟨u, hcs, hu⟩ := hr j (x, j) (Kd.zip_at hx)
  have hcs : (inner.drop (j * 1)).take 1 = [u] := hcs
  have hj : j < xss.length := (List.getElem?_eq_some_iff.1 hx).1
  have hu1 : inner[j]? = some u := by
   have h1 : ((inner.drop (j * 1)).take 1)[0]? = some u := by rw [hcs]; rfl
   rw [List.getElem?_take, if_pos (by omega), List.getElem?_drop, Nat.mul_one, Nat.add_zero] at h1
   exact h1
  refine ⟨u, hu1, ?_, Kd.R_mono hu (fun k hk => ⟨⟨hk.1.1.2.1, hk.1.1.2.2.1⟩, hk.2, hk.1.2⟩)⟩
  obtain ⟨A, c, rfl⟩ := Kd.R_slice hu
  rfl
 refine ⟨(inner.map slOf).zip xss, ?_, hb, fun j => match j with | 0 => fun k => v.ownBlock = some k | j + 1 => fun k => (w.heap.size ≤ k ∧ k < w1.heap.size) ∧ f k = j ∧ some k ≠ v.ownBlock, ?_, ?_, ?_⟩
 ·rw [List.map_snd_zip]
  rw [List.length_map]; omega
 ·intro j r hj
  cases j with
  | zero =>
   injection hj with hj
   subst hj
   rw [List.map_fst_zip (by rw [List.length_map]; omega)]
   refine Kd.R_of_own ?_ (fun k hk => hk)
   have e1 : encs slV (inner.map slOf) = inner := by
    unfold encs
    rw [List.map_map]
    apply List.ext_getElem?
    intro j
    rw [List.getElem?_map]
    cases hi : inner[j]? with
    | none => rfl
    | some u =>
     have hj : j < xss.length := by have := (List.getElem?_eq_some_iff.1 hi).1; omega
     obtain ⟨u', h1, h2, _⟩ := he j _ (List.getElem?_eq_getElem hj)
     rw [hi] at h1
     injection h1 with h1
     subst h1
     exact congrArg some h2
   rw [e1, List.length_map]
   have h2 := own_weaken ho hb0
   rw [List.length_zipIdx, ← hl1] at h2
   exact h2
  | succ j =>
   rw [List.getElem?_cons_succ] at hj
   unfold rowsOf at hj
   rw [List.getElem?_map] at hj
   obtain ⟨p, hp, rfl⟩ := Option.map_eq_some_iff.1 hj
   obtain ⟨h1, h2⟩ := List.getElem?_zip_eq_some.1 hp
   obtain ⟨u, g1, g2, g3⟩ := he j _ h2
   rw [List.getElem?_map, g1] at h1
   injection h1 with h1
   show kC.R _ w1 b _ (slV p.1) p.2
   rw [← h1, g2]
   exact Kd.R_lower g3 hb0
 ·intro i j k hij hi hj
  cases i with
  | zero =>
   cases j with
   | zero => exact hij rfl
   | succ j => exact hj.2.2 (Eq.symm hi)
  | succ i =>
   cases j with
   | zero => exact hi.2.2 (Eq.symm hj)
   | succ j => exact hij (by have h1 := hi.2.1; have h2 := hj.2.1; omega)
 ·intro i k hi
  cases i with
  | zero => exact ⟨own_base ho k hi, own_lt ho k hi⟩
  | succ i => exact hi.1
theorem Sp.split {w0 w w1 : World} {rs : List Res} {v : Value} {xss : List (List Cb)} (h : Sp w0 rs w) (hb : Below w.heap.size w w1) (hS : Kd.S kC2 35 w1 w.heap.size (fun _ => True) v xss) :
  ∃ L : List (Sl × List Cb), L.map Prod.snd = xss ∧ Sp w0 (Res.row kSl 35 w0.heap.size v (L.map Prod.fst) :: (rowsOf w0.heap.size L ++ rs)) w1 := by
 obtain ⟨L, h1, h2⟩ := split_S w0.heap.size h.below.size hb hS
 exact ⟨L, h1, Sp.app h h2⟩
instance instSl : Inhabited Sl := ⟨(none, 0, 0)⟩
def meetS (a b : List Cb) : Bool := a.any fun c => b.contains c
abbrev pAt (parts : List (List Cb)) (i : Nat) : List Cb := partAt parts (i : Int)
def rowOk (parts : List (List Cb)) (i : Nat) : Bool := solP (pAt parts i) && (conP (pAt parts i) && ((List.range (pAt parts i).length).all (fun c => inCb (cAt (pAt parts i) c) 0 7) && (List.range i).all fun k => !meetS (pAt parts i) (pAt parts k)))
theorem pAt_mem (parts : List (List Cb)) (i : Nat) (h : i < parts.length) : pAt parts i ∈ parts := by
 have : pAt parts i = parts[i] := by unfold pAt partAt; simp [h]
 rw [this]; exact List.getElem_mem _
def asmS (parts : List (List Cb)) : Bool := (decide (2 ≤ parts.length) && decide (parts.length ≤ 4)) && (List.range parts.length).all (rowOk parts)
theorem range_no (q : Nat → Bool) (n j : Nat) (hj : j < n) (h : q j = false) : (List.range n).all q = false := by
 rw [Bool.eq_false_iff]
 intro hc
 rw [List.all_eq_true] at hc
 have := hc j (List.mem_range.2 hj)
 rw [h] at this
 cases this
theorem range_next (q : Nat → Bool) (j : Nat) (h : (List.range j).all q = true) (h2 : q j = true) : (List.range (j + 1)).all q = true := by
 rw [List.range_succ, List.all_append, h]
 simp [h2]
theorem asmS_no (parts : List (List Cb)) (i : Nat) (hi : i < parts.length) (h : rowOk parts i = false) : asmS parts = false := by
 unfold asmS
 rw [range_no _ _ i hi h, Bool.and_false]
theorem asmS_end (parts : List (List Cb)) (hn : inR (parts.length : Int) 2 4 = true) (h : (List.range parts.length).all (rowOk parts) = true) : asmS parts = true := by
 unfold inR at hn
 rw [Bool.and_eq_true, decide_eq_true_eq, decide_eq_true_eq] at hn
 unfold asmS
 rw [h, decide_eq_true (show 2 ≤ parts.length by omega), decide_eq_true (show parts.length ≤ 4 by omega)]
 rfl
theorem asmS_few (parts : List (List Cb)) (hn : inR (parts.length : Int) 2 4 = false) : asmS parts = false := by
 unfold asmS
 have : (decide (2 ≤ parts.length) && decide (parts.length ≤ 4)) = false := by
  rw [← hn]
  unfold inR
  rw [Bool.eq_iff_iff]
  simp only [Bool.and_eq_true, decide_eq_true_eq]
  omega
 rw [this, Bool.false_and]
section
attribute [local go_sem] max2_int min2_int max_two min_two max_three min_three max_four min_four
attribute [local go_sem high] eqA94
def spec_l09Index.l0 : Nat → List (S94) → Int → Int → Int → Int → Option (Int)
  | 0, _, _, _, _, _ => none
  | k + 1, x0, x5, x118000, x118001, x118002 => if x5 < (x0.length : Int) then (if 0 ≤ x5 then (if (((rd_T94 x0 x5).f0) == x118000 && (((rd_T94 x0 x5).f1) == x118001 && (((rd_T94 x0 x5).f2) == x118002))) = true then (some x5) else (spec_l09Index.l0 k x0 (wrap64 (x5 + 1)) x118000 x118001 x118002)) else (none)) else (some (-1))
def spec_l09Index.f (k : Nat) (l0 : List (S94)) (a1_0 : Int) (a1_1 : Int) (a1_2 : Int) : Option (Int) := spec_l09Index.l0 k l0 0 a1_0 a1_1 a1_2
set_option maxHeartbeats 8000000 in
set_option maxRecDepth 100000 in
theorem spec_l09Index.calls (k : Nat) (A0 : Option Addr) (c0 : Nat) (l0 : List (S94)) (a1_0 : Int) (a1_1 : Int) (a1_2 : Int) (r : Int) (w : World) (hr0 : Kd.C k94 w A0 l0.length l0) (hc0 : l0.length ≤ c0) (h : spec_l09Index.f k l0 a1_0 a1_1 a1_2 = some r) :
    Calls Try.prog 110 #[.slice A0 l0.length c0, .agg #[.int .i64 a1_0, .int .i64 a1_1, .int .i64 a1_2]] w fun e w' => e = .returned (.int .i64 r) ∧ Below w.heap.size w w' := by
 (have hu94 := Try.underlying94); (have HR0 := A0_ hr0); (have HC0 := A0_ hc0); clear hr0 hc0; (have HB := A0_ (Below.refl w.heap.size w)); (have H : (spec_l09Index.l0 k l0 0 a1_0 a1_1 a1_2) = some r := h); clear h; (have H' := A0_ H); clear H; (go_enter Try.func110, Try.ntmps110); (go_wp2_with (first | ((with_reducible refine gate_dst (N := 3) rfl ?_); refine be_ (N := 3) (cs := #[.int .i64 a1_0, .int .i64 a1_1, .int .i64 a1_2]) (t := 94) ?_; intro gb117 hg w3 hbox hb; have n0_ := A0_ (below_step bw_ hb); have n1_ := A0_ (hbox); have n2_ := A0_ ((by rw [hg]; exact (below_size bw_) : w.heap.size ≤ gb117)); have n3_ := A0_ ((by rw [hg]; exact (below_size bw_) : w.heap.size ≤ gb117)); clear HB; have HB := n0_; have BK117 := n1_; have GW117 := n2_; have GE117 := n3_; clear n0_ n1_ n2_ n3_; clear hb hbox hg))); (repeat (go_quiet (first | ((with_reducible refine gate_dst (N := 3) rfl ?_); refine be_ (N := 3) (cs := #[.int .i64 a1_0, .int .i64 a1_1, .int .i64 a1_2]) (t := 94) ?_; intro gb117 hg w3 hbox hb; have n0_ := A0_ (below_step bw_ hb); have n1_ := A0_ (hbox); have n2_ := A0_ ((by rw [hg]; exact (below_size bw_) : w.heap.size ≤ gb117)); have n3_ := A0_ ((by rw [hg]; exact (below_size bw_) : w.heap.size ≤ gb117)); clear HB; have HB := n0_; have BK117 := n1_; have GW117 := n2_; have GE117 := n3_; clear n0_ n1_ n2_ n3_; clear hb hbox hg)); try go_wp2_with (first | ((with_reducible refine gate_dst (N := 3) rfl ?_); refine be_ (N := 3) (cs := #[.int .i64 a1_0, .int .i64 a1_1, .int .i64 a1_2]) (t := 94) ?_; intro gb117 hg w3 hbox hb; have n0_ := A0_ (below_step bw_ hb); have n1_ := A0_ (hbox); have n2_ := A0_ ((by rw [hg]; exact (below_size bw_) : w.heap.size ≤ gb117)); have n3_ := A0_ ((by rw [hg]; exact (below_size bw_) : w.heap.size ≤ gb117)); clear HB; have HB := n0_; have BK117 := n1_; have GW117 := n2_; have GE117 := n3_; clear n0_ n1_ n2_ n3_; clear hb hbox hg))))
 go_loopg [5] k (fun kq v5 w' => ∃ (x5_1 : Int), v5 = .int .i64 x5_1 ∧ Aside0 (spec_l09Index.l0 kq l0 x5_1 a1_0 a1_1 a1_2 = some r) ∧ Aside0 (kq ≤ k) ∧ Aside0 (w'.heap[gb117]? = some (.cells #[.int .i64 a1_0, .int .i64 a1_1, .int .i64 a1_2] 94 (0, 0))) ∧ Aside0 (Below w.heap.size w w'))
 case atStart => exact ⟨(0), (by first | rfl | (simp; done) | (simp [*]; done)), H', ⟨Nat.le_refl _⟩, ⟨by exact bk_ BK117⟩, ⟨by repeat (first | (with_reducible first | exact HB.out | apply ba_ | apply bn_ | apply bd_ | refine below_set ?_ GE117.out) | exact HB.out)⟩⟩
 case round =>
  clear H'; (try clear c1); (try clear p2); (obtain ⟨x5_1, rfl, HA, HK1, BK117, HB⟩ := hrel)
  cases gk with
  | zero => exact absurd HA.out (by simp [spec_l09Index.l0])
  | succ k1 =>
   (have H := HA.out); clear HA; (simp only [spec_l09Index.l0] at H); (by_cases c4 : x5_1 < (l0.length : Int))
   ·(rw [if_pos c4] at H); (have c4b0 : decide (x5_1 < (l0.length : Int)) = true := decide_eq_true c4); clear c4; (by_cases c5 : 0 ≤ x5_1)
    ·(rw [if_pos c5] at H); (have c5b0 : decide (0 ≤ x5_1) = true := decide_eq_true c5); clear c5; (by_cases c6 : (((rd_T94 l0 x5_1).f0) == a1_0 && (((rd_T94 l0 x5_1).f1) == a1_1 && (((rd_T94 l0 x5_1).f2) == a1_2))) = true)
     ·(rw [if_pos c6] at H); (have c6b0 : (((rd_T94 l0 x5_1).f0) == a1_0 && (((rd_T94 l0 x5_1).f1) == a1_1 && (((rd_T94 l0 x5_1).f2) == a1_2))) = true := c6); ((try (have c6b1 : decide (((rd_T94 l0 x5_1).f0) = a1_0 && (((rd_T94 l0 x5_1).f1) == a1_1 && (((rd_T94 l0 x5_1).f2) == a1_2))) = true := by simpa using c6))); ((try (have c6b2 : (((rd_T94 l0 x5_1).f0) == a1_0 && (((rd_T94 l0 x5_1).f1) == a1_1 && (((rd_T94 l0 x5_1).f2) == a1_2))) = true := by simpa using c6))); clear c6; (obtain rfl := Option.some.inj H); (have p118 : 0 ≤ (x5_1 : Int) := of_decide_eq_true as_); (have q118 : x5_1 < (l0.length : Int) := of_decide_eq_true as_); (obtain ⟨ad118, e118, hx118_0, hx118_1, hx118_2⟩ := at_T94 HR0.out x5_1 p118 q118); (cases e118); (replace hx118_0 := (HB.out.cell (World.block_lt_of_cell? w _ hx118_0)).trans hx118_0); (replace hx118_1 := (HB.out.cell (World.block_lt_of_cell? w _ hx118_1)).trans hx118_1); (replace hx118_2 := (HB.out.cell (World.block_lt_of_cell? w _ hx118_2)).trans hx118_2); (replace p118 := eq_true p118); (replace q118 := eq_true q118); (have hcz7_0 : wr.cell? ⟨gb117, 0, none⟩ = some (.int .i64 a1_0) := (blk_cell BK117.out 0).trans rfl); (have hcz7_1 : wr.cell? ⟨gb117, 1, none⟩ = some (.int .i64 a1_1) := (blk_cell BK117.out 1).trans rfl); (have hcz7_2 : wr.cell? ⟨gb117, 2, none⟩ = some (.int .i64 a1_2) := (blk_cell BK117.out 2).trans rfl); (have hfz7_0 := blk_frozen BK117.out 0); (have hfz7_1 := blk_frozen BK117.out 1); (have hfz7_2 := blk_frozen BK117.out 2); go_wp2; (repeat (go_quiet (fail); try go_wp2)); go_ret; (exact ⟨er_, bx_⟩)
     ·(rw [if_neg c6] at H); (have c6b0 : (((rd_T94 l0 x5_1).f0) == a1_0 && (((rd_T94 l0 x5_1).f1) == a1_1 && (((rd_T94 l0 x5_1).f2) == a1_2))) = false := by simpa using c6); ((try (have c6b1 : decide (((rd_T94 l0 x5_1).f0) = a1_0 && (((rd_T94 l0 x5_1).f1) == a1_1 && (((rd_T94 l0 x5_1).f2) == a1_2))) = false := by simpa using c6))); ((try (have c6b2 : (((rd_T94 l0 x5_1).f0) == a1_0 && (((rd_T94 l0 x5_1).f1) == a1_1 && (((rd_T94 l0 x5_1).f2) == a1_2))) = false := by simpa using c6))); ((try (have c6b3 : ¬ (((rd_T94 l0 x5_1).f0) = a1_0 && (((rd_T94 l0 x5_1).f1) == a1_1 && (((rd_T94 l0 x5_1).f2) == a1_2))) := by simpa using c6))); clear c6; (have H' := A0_ H); clear H; (have p118 : 0 ≤ (x5_1 : Int) := of_decide_eq_true as_); (have q118 : x5_1 < (l0.length : Int) := of_decide_eq_true as_); (obtain ⟨ad118, e118, hx118_0, hx118_1, hx118_2⟩ := at_T94 HR0.out x5_1 p118 q118); (cases e118); (replace hx118_0 := (HB.out.cell (World.block_lt_of_cell? w _ hx118_0)).trans hx118_0); (replace hx118_1 := (HB.out.cell (World.block_lt_of_cell? w _ hx118_1)).trans hx118_1); (replace hx118_2 := (HB.out.cell (World.block_lt_of_cell? w _ hx118_2)).trans hx118_2); (replace p118 := eq_true p118); (replace q118 := eq_true q118); (have hcz8_0 : wr.cell? ⟨gb117, 0, none⟩ = some (.int .i64 a1_0) := (blk_cell BK117.out 0).trans rfl); (have hcz8_1 : wr.cell? ⟨gb117, 1, none⟩ = some (.int .i64 a1_1) := (blk_cell BK117.out 1).trans rfl); (have hcz8_2 : wr.cell? ⟨gb117, 2, none⟩ = some (.int .i64 a1_2) := (blk_cell BK117.out 2).trans rfl); (have hfz8_0 := blk_frozen BK117.out 0); (have hfz8_1 := blk_frozen BK117.out 1); (have hfz8_2 := blk_frozen BK117.out 2); go_wp2; (repeat (go_quiet (fail); try go_wp2)); (go_roundg k1)
      case measure => have := HK1.out; omega
      case rel => exact ⟨(wrap64 (x5_1 + 1)), (by first | rfl | (simp; done) | (simp [*]; done)), H', ⟨by have := HK1.out; omega⟩, ⟨by exact bk_ BK117⟩, ⟨by repeat (first | (with_reducible first | exact HB.out | apply ba_ | apply bn_ | apply bd_ | refine below_set ?_ GE117.out) | exact HB.out)⟩⟩
    ·(rw [if_neg c5] at H); (exact absurd H (by simp))
   ·(rw [if_neg c4] at H); (have c4b0 : decide (x5_1 < (l0.length : Int)) = false := decide_eq_false c4); clear c4; (obtain rfl := Option.some.inj H); go_wp2; (repeat (go_quiet (fail); try go_wp2)); go_ret; (exact ⟨er_, bx_⟩)
end
section
attribute [local go_sem] max2_int min2_int max_two min_two max_three min_three max_four min_four
def spec_l09Add.f (a0_0 : Int) (a0_1 : Int) (a0_2 : Int) (a1_0 : Int) (a1_1 : Int) (a1_2 : Int) : Option (Int × Int × Int) := some (wrap64 (a0_0 + a1_0), wrap64 (a0_1 + a1_1), wrap64 (a0_2 + a1_2))
set_option maxHeartbeats 8000000 in
set_option maxRecDepth 100000 in
theorem spec_l09Add.calls (a0_0 : Int) (a0_1 : Int) (a0_2 : Int) (a1_0 : Int) (a1_1 : Int) (a1_2 : Int) (r1 : Int) (r2 : Int) (r3 : Int) (w : World) (h : spec_l09Add.f a0_0 a0_1 a0_2 a1_0 a1_1 a1_2 = some (r1, r2, r3)) :
    Calls Try.prog 89 #[.agg #[.int .i64 a0_0, .int .i64 a0_1, .int .i64 a0_2], .agg #[.int .i64 a1_0, .int .i64 a1_1, .int .i64 a1_2]] w fun e w' => e = .returned (.agg #[.int .i64 r1, .int .i64 r2, .int .i64 r3]) ∧ Below w.heap.size w w' := by
 (have hu94 := Try.underlying94); (have HB := A0_ (Below.refl w.heap.size w)); (have H : (some (wrap64 (a0_0 + a1_0), wrap64 (a0_1 + a1_1), wrap64 (a0_2 + a1_2))) = some (r1, r2, r3) := h); clear h; (simp only [Option.some.injEq, Prod.mk.injEq] at H); (obtain ⟨rfl, rfl, rfl⟩ := H); (go_enter Try.func89, Try.ntmps89); (go_wp2_with (first | ((with_reducible refine gate_dst (N := 2) rfl ?_); refine be_ (N := 2) (cs := #[.int .i64 a0_0, .int .i64 a0_1, .int .i64 a0_2]) (t := 94) ?_; intro gb103 hg w3 hbox hb; have n0_ := A0_ (below_step bw_ hb); have n1_ := A0_ (hbox); have n2_ := A0_ ((by rw [hg]; exact (below_size bw_) : w.heap.size ≤ gb103)); have n3_ := A0_ ((by rw [hg]; exact (below_size bw_) : w.heap.size ≤ gb103)); clear HB; have HB := n0_; have BK103 := n1_; have GW103 := n2_; have GE103 := n3_; clear n0_ n1_ n2_ n3_; clear hb hbox hg) | ((with_reducible refine gate_dst (N := 3) rfl ?_); refine be_ (N := 3) (cs := #[.int .i64 a1_0, .int .i64 a1_1, .int .i64 a1_2]) (t := 94) ?_; intro gb104 hg w4 hbox hb; have n0_ := A0_ (blk_below (g := gb103) (o := .cells #[.int .i64 a0_0, .int .i64 a0_1, .int .i64 a0_2] 94 (0, 0)) (bk_ BK103) hb); have n1_ := A0_ (below_step bx_ hb); have n2_ := A0_ (hbox); have n3_ := A0_ ((by rw [hg]; exact (below_size bx_) : w.heap.size ≤ gb104)); have n4_ := A0_ ((by rw [hg]; exact (below_size bx_) : w.heap.size ≤ gb104)); have n5_ := A0_ ((by rw [hg]; exact Nat.ne_of_lt (blk_lt (g := gb103) (o := .cells #[.int .i64 a0_0, .int .i64 a0_1, .int .i64 a0_2] 94 (0, 0)) (bk_ BK103)) : gb103 ≠ gb104)); have n6_ := A0_ ((by rw [hg]; exact Nat.ne_of_gt (blk_lt (g := gb103) (o := .cells #[.int .i64 a0_0, .int .i64 a0_1, .int .i64 a0_2] 94 (0, 0)) (bk_ BK103)) : gb104 ≠ gb103)); clear BK103; clear HB; have BK103 := n0_; have HB := n1_; have BK104 := n2_; have GW104 := n3_; have GE104 := n4_; have NB103_104 := n5_; have NB104_103 := n6_; clear n0_ n1_ n2_ n3_ n4_ n5_ n6_; clear hb hbox hg) | ((with_reducible refine gate_dst (N := 4) rfl ?_); refine be_ (N := 4) (cs := #[.int .i64 0, .int .i64 0, .int .i64 0]) (t := 94) ?_; intro gb105 hg w5 hbox hb; have n0_ := A0_ (blk_below (g := gb103) (o := .cells #[.int .i64 a0_0, .int .i64 a0_1, .int .i64 a0_2] 94 (0, 0)) (bk_ BK103) hb); have n1_ := A0_ (blk_below (g := gb104) (o := .cells #[.int .i64 a1_0, .int .i64 a1_1, .int .i64 a1_2] 94 (0, 0)) (bk_ BK104) hb); have n2_ := A0_ (below_step bx_ hb); have n3_ := A0_ (hbox); have n4_ := A0_ ((by rw [hg]; exact (below_size bx_) : w.heap.size ≤ gb105)); have n5_ := A0_ ((by rw [hg]; exact (below_size bx_) : w.heap.size ≤ gb105)); have n6_ := A0_ ((by rw [hg]; exact Nat.ne_of_lt (blk_lt (g := gb103) (o := .cells #[.int .i64 a0_0, .int .i64 a0_1, .int .i64 a0_2] 94 (0, 0)) (bk_ BK103)) : gb103 ≠ gb105)); have n7_ := A0_ ((by rw [hg]; exact Nat.ne_of_gt (blk_lt (g := gb103) (o := .cells #[.int .i64 a0_0, .int .i64 a0_1, .int .i64 a0_2] 94 (0, 0)) (bk_ BK103)) : gb105 ≠ gb103)); have n8_ := A0_ ((by rw [hg]; exact Nat.ne_of_lt (blk_lt (g := gb104) (o := .cells #[.int .i64 a1_0, .int .i64 a1_1, .int .i64 a1_2] 94 (0, 0)) (bk_ BK104)) : gb104 ≠ gb105)); have n9_ := A0_ ((by rw [hg]; exact Nat.ne_of_gt (blk_lt (g := gb104) (o := .cells #[.int .i64 a1_0, .int .i64 a1_1, .int .i64 a1_2] 94 (0, 0)) (bk_ BK104)) : gb105 ≠ gb104)); clear BK103; clear BK104; clear HB; have BK103 := n0_; have BK104 := n1_; have HB := n2_; have BK105 := n3_; have GW105 := n4_; have GE105 := n5_; have NB103_105 := n6_; have NB105_103 := n7_; have NB104_105 := n8_; have NB105_104 := n9_; clear n0_ n1_ n2_ n3_ n4_ n5_ n6_ n7_ n8_ n9_; clear hb hbox hg; have hnb6 := NB103_104.out; have hnc6 := NB104_103.out; have hnb7 := NB103_105.out; have hnc7 := NB105_103.out; have hcz8_0 : w5.cell? ⟨gb103, 0, none⟩ = some (.int .i64 a0_0) := (blk_cell BK103.out 0).trans rfl; have hcz8_1 : w5.cell? ⟨gb103, 1, none⟩ = some (.int .i64 a0_1) := (blk_cell BK103.out 1).trans rfl; have hcz8_2 : w5.cell? ⟨gb103, 2, none⟩ = some (.int .i64 a0_2) := (blk_cell BK103.out 2).trans rfl; have hfz8_0 := blk_frozen BK103.out 0; have hfz8_1 := blk_frozen BK103.out 1; have hfz8_2 := blk_frozen BK103.out 2; have hnb9 := NB104_105.out; have hnc9 := NB105_104.out; have hcz10_0 : w5.cell? ⟨gb104, 0, none⟩ = some (.int .i64 a1_0) := (blk_cell BK104.out 0).trans rfl; have hcz10_1 : w5.cell? ⟨gb104, 1, none⟩ = some (.int .i64 a1_1) := (blk_cell BK104.out 1).trans rfl; have hcz10_2 : w5.cell? ⟨gb104, 2, none⟩ = some (.int .i64 a1_2) := (blk_cell BK104.out 2).trans rfl; have hfz10_0 := blk_frozen BK104.out 0; have hfz10_1 := blk_frozen BK104.out 1; have hfz10_2 := blk_frozen BK104.out 2; have hcz11_0 : w5.cell? ⟨gb105, 0, none⟩ = some (.int .i64 0) := (blk_cell BK105.out 0).trans rfl; have hcz11_1 : w5.cell? ⟨gb105, 1, none⟩ = some (.int .i64 0) := (blk_cell BK105.out 1).trans rfl; have hcz11_2 : w5.cell? ⟨gb105, 2, none⟩ = some (.int .i64 0) := (blk_cell BK105.out 2).trans rfl; have hfz11_0 := blk_frozen BK105.out 0; have hfz11_1 := blk_frozen BK105.out 1; have hfz11_2 := blk_frozen BK105.out 2))); (refine bodyPost_ret (results_cell_row rfl _ _ gb105 94 #[.int .i64 (wrap64 (a0_0 + a1_0)), .int .i64 (wrap64 (a0_1 + a1_1)), .int .i64 (wrap64 (a0_2 + a1_2))] (0, 0) _ rfl (by (with_reducible repeat (first | apply gn_ | apply gd_ | apply ga_)); refine blk_put (cs := #[.int .i64 (wrap64 (a0_0 + a1_0)), .int .i64 (wrap64 (a0_1 + a1_1)), .int .i64 0]) ?_ 2 _ rfl; (with_reducible repeat (first | apply gn_ | apply gd_ | apply ga_)); refine blk_put (cs := #[.int .i64 (wrap64 (a0_0 + a1_0)), .int .i64 0, .int .i64 0]) ?_ 1 _ rfl; (with_reducible repeat (first | apply gn_ | apply gd_ | apply ga_)); refine blk_put (cs := #[.int .i64 0, .int .i64 0, .int .i64 0]) ?_ 0 _ rfl; exact bk_ BK105) Try.underlying94 rfl (by kernel_rfl)) rfl ?_); (exact ⟨er_, bx_⟩)
end
section
attribute [local go_sem] max2_int min2_int max_two min_two max_three min_three max_four min_four
def spec_l09Move.l0 : Nat → List (S94) → List (S94) → Int → Int → Int → Int → Option ((List (S94)))
  | 0, _, _, _, _, _, _ => none
  | k + 1, x0, x5, x6, x107000, x107001, x107002 => if x6 < (x0.length : Int) then (if 0 ≤ x6 then ((spec_l09Add.f ((rd_T94 x0 x6).f0) ((rd_T94 x0 x6).f1) ((rd_T94 x0 x6).f2) x107000 x107001 x107002).bind fun bt111 => (if x5.length < 5864062014805 then (spec_l09Move.l0 k x0 (x5 ++ [(⟨bt111.1, bt111.2.1, bt111.2.2⟩ : S94)]) (wrap64 (x6 + 1)) x107000 x107001 x107002) else (none))) else (none)) else (some x5)
def spec_l09Move.f (k : Nat) (l0 : List (S94)) (a1_0 : Int) (a1_1 : Int) (a1_2 : Int) : Option ((List (S94))) := spec_l09Move.l0 k l0 (([] : List (S94))) 0 a1_0 a1_1 a1_2
def spec_l09Move.T5 : Bool × List (List Nat × List Nat) := (true, [([], []), ([], []), ([], []), ([1, 2], [1, 2]), ([3], [3]), ([], []), ([4, 5], [4, 5]), ([6], [6]), ([0, 7, 6], [0, 7]), ([8, 8, 0, 1, 2, 3, 4, 5, 6, 7, 8], [0, 8])])
def spec_l09Move.B5 : List Nat := [0, 0, 0, 6, 14, 0, 62, 126, 255, 511]
theorem spec_l09Move.tab5 : rtab .any (opsOf Try.f93 5) = spec_l09Move.T5 := by kernel_rfl
theorem spec_l09Move.bits5 : waitsOk spec_l09Move.T5.2 spec_l09Move.B5 = true := by kernel_rfl
set_option maxHeartbeats 8000000 in
set_option maxRecDepth 100000 in
theorem spec_l09Move.calls (k : Nat) (A0 : Option Addr) (c0 : Nat) (l0 : List (S94)) (a1_0 : Int) (a1_1 : Int) (a1_2 : Int) (r : List (S94)) (w : World) (hr0 : Kd.C k94 w A0 l0.length l0) (hc0 : l0.length ≤ c0) (h : spec_l09Move.f k l0 a1_0 a1_1 a1_2 = some r) :
    Calls Try.prog 93 #[.slice A0 l0.length c0, .agg #[.int .i64 a1_0, .int .i64 a1_1, .int .i64 a1_2]] w fun e w' => ∃ v0_ : Value, e = .returned (v0_) ∧ Kd.R k94 94 w' w.heap.size (fun _ => True) v0_ r ∧ Below w.heap.size w w' := by
 (have hu94 := Try.underlying94); (have HR0 := A0_ hr0); (have HC0 := A0_ hc0); clear hr0 hc0; (have HB := A0_ (Below.refl w.heap.size w)); (have H : (spec_l09Move.l0 k l0 (([] : List (S94))) 0 a1_0 a1_1 a1_2) = some r := h); clear h; (obtain ⟨y107, hy107⟩ : ∃ y_ : List (S94), y_ = (([] : List (S94))) := ⟨_, rfl⟩); (replace H : (spec_l09Move.l0 k l0 y107 0 a1_0 a1_1 a1_2) = some r := by first | (rw [hy107]; with_reducible exact H) | (have H2_ := (Option.bind_some _ _).symm.trans H; rw [hy107]; with_reducible exact H2_) | (have H2_ := (Option.bind_some _ _).symm.trans H; with_reducible exact H2_) | with_reducible exact H | (rw [hy107]; exact H) | exact H); (have Ny107 := A0_ hy107); clear hy107; (have H' := A0_ H); clear H; (go_enter Try.func93, Try.ntmps93)
 go_wp2_with (first | ((with_reducible refine gate_dst (N := 3) rfl ?_); refine be_ (N := 3) (cs := #[.int .i64 a1_0, .int .i64 a1_1, .int .i64 a1_2]) (t := 94) ?_; intro gb106 hg w3 hbox hb; have n0_ := A0_ (below_step bw_ hb); have n1_ := A0_ (hbox); have n2_ := A0_ ((by rw [hg]; exact (below_size bw_) : w.heap.size ≤ gb106)); have n3_ := A0_ ((by rw [hg]; exact (below_size bw_) : w.heap.size ≤ gb106)); clear HB; have HB := n0_; have BK106 := n1_; have GW106 := n2_; have GE106 := n3_; clear n0_ n1_ n2_ n3_; clear hb hbox hg) | ((with_reducible refine gate_dst (N := 7) rfl ?_); refine Kd.R_lit k94 _ 94 ?hg (N := 7) ?hd (xs := ([] : List (S94))) (inner := []) (ok := fun _ => True) (okp := fun _ => True) ?hr ?hp (fun _ hk => hk) trivial (Below.refl _ _) (Nat.le_refl _) (by simp) ?_; (case hd => rfl); (case hg => rfl); (case hr => first | (go_simp; done) | (go_simp; rfl)); (case hp => exact (Reps.none _ _)); intro v108 w4 ho5 hb hg_ hnew_; clear hg_ hnew_; (first | rw [← Ny107.out] at ho5 | (simp only [Int.reduceToNat] at ho5; rw [← Ny107.out] at ho5)); have n0_ := A0_ (Kd.R_lower (Kd.R_newB ho5 (g := gb106) (o := .cells #[.int .i64 a1_0, .int .i64 a1_1, .int .i64 a1_2] 94 (0, 0)) (bk_ BK106)) (below_size bx_)); have n1_ := A0_ (blk_below (g := gb106) (o := .cells #[.int .i64 a1_0, .int .i64 a1_1, .int .i64 a1_2] 94 (0, 0)) (bk_ BK106) hb); have n2_ := A0_ (below_step bx_ hb); clear BK106; clear HB; have HO109 := n0_; have BK106 := n1_; have HB := n2_; clear n0_ n1_ n2_; clear hb ho5))
 go_loopg [5, 6] k (fun kq v5 v6 w' => ∃ (x5_1 : List (S94)) (x6_1 : Int), v6 = .int .i64 x6_1 ∧ Aside0 (spec_l09Move.l0 kq l0 x5_1 x6_1 a1_0 a1_1 a1_2 = some r) ∧ Aside0 (kq ≤ k) ∧ Aside0 (Kd.R k94 94 w' w.heap.size (fun k_ => k_ ≠ gb106) v5 x5_1) ∧ Aside0 (w'.heap[gb106]? = some (.cells #[.int .i64 a1_0, .int .i64 a1_1, .int .i64 a1_2] 94 (0, 0))) ∧ Aside0 (Below w.heap.size w w'))
 case atStart => exact ⟨(y107), (0), (by first | rfl | (simp; done) | (simp [*]; done)), H', ⟨Nat.le_refl _⟩, ⟨by (with_reducible repeat (first | apply Ra_ | apply Rn_ | apply Rd_)); exact Kd.R_mono HO109.out (fun _ hk => hk.2)⟩, ⟨by exact bk_ BK106⟩, ⟨by repeat (first | (with_reducible first | exact HB.out | apply ba_ | apply bn_ | apply bd_ | refine below_set ?_ GE106.out) | exact HB.out)⟩⟩
 case round =>
  clear H'; (try clear p2); (obtain ⟨x5_1, x6_1, rfl, HA, HK1, HO_5, BK106, HB⟩ := hrel)
  cases gk with
  | zero => exact absurd HA.out (by simp [spec_l09Move.l0])
  | succ k1 =>
   (have H := HA.out); clear HA; (simp only [spec_l09Move.l0] at H); (by_cases c6 : x6_1 < (l0.length : Int))
   ·(rw [if_pos c6] at H); (have c6b0 : decide (x6_1 < (l0.length : Int)) = true := decide_eq_true c6); clear c6; (by_cases c7 : 0 ≤ x6_1)
    ·(rw [if_pos c7] at H); (have c7b0 : decide (0 ≤ x6_1) = true := decide_eq_true c7); clear c7; (replace H := Option.bind_eq_some_iff.mp H); (obtain ⟨⟨t111, t112, t113⟩, A80, H⟩ := H); (try dsimp only at H); (have A8 := A0_ A80); clear A80; (by_cases c9 : x5_1.length < 5864062014805)
     ·(rw [if_pos c9] at H); (have LMc9 := A0_ c9); clear c9; (obtain ⟨y114, hy114⟩ : ∃ y_ : List (S94), y_ = (x5_1 ++ [(⟨t111, t112, t113⟩ : S94)]) := ⟨_, rfl⟩); (replace H : (spec_l09Move.l0 k1 l0 y114 (wrap64 (x6_1 + 1)) a1_0 a1_1 a1_2) = some r := by first | (rw [hy114]; with_reducible exact H) | (have H2_ := (Option.bind_some _ _).symm.trans H; rw [hy114]; with_reducible exact H2_) | (have H2_ := (Option.bind_some _ _).symm.trans H; with_reducible exact H2_) | with_reducible exact H | (rw [hy114]; exact H) | exact H); (have Ny114 := A0_ hy114); clear hy114; (have H' := A0_ H); clear H; (try go_wp2); (have n0_ := A0_ (Kd.R_drew HO_5.out)); (have n1_ := A0_ (blk_drew BK106.out)); (have n2_ := A0_ (below_drew1 HB.out)); clear HO_5; clear BK106; clear HB; (have HO_5 := n0_); (have BK106 := n1_); (have HB := n2_); clear n0_ n1_ n2_; (have p110 : 0 ≤ (x6_1 : Int) := of_decide_eq_true as_); (have q110 : x6_1 < (l0.length : Int) := of_decide_eq_true as_); (obtain ⟨ad110, e110, hx110_0, hx110_1, hx110_2⟩ := at_T94 HR0.out x6_1 p110 q110); (have hw110_2 := hx110_2); (have hw110_1 := hx110_1); (have hw110_0 := hx110_0); (cases e110); (replace hx110_0 := (HB.out.cell (World.block_lt_of_cell? w _ hx110_0)).trans hx110_0); (replace hx110_1 := (HB.out.cell (World.block_lt_of_cell? w _ hx110_1)).trans hx110_1); (replace hx110_2 := (HB.out.cell (World.block_lt_of_cell? w _ hx110_2)).trans hx110_2); (replace p110 := eq_true p110); (replace q110 := eq_true q110)
      refine start_ (n := 10) (S := fun w' => w'.cell? ⟨gb106, 0, none⟩ = some (.int .i64 a1_0) ∧ w'.cell? ⟨gb106, 1, none⟩ = some (.int .i64 a1_1) ∧ w'.cell? ⟨gb106, 2, none⟩ = some (.int .i64 a1_2) ∧ w'.cell? (ad110.add ((x6_1).toNat * 3)) = some (.int .i64 ((rd_T94 l0 x6_1).f0)) ∧ w'.cell? ⟨(ad110.add ((x6_1).toNat * 3)).block, (ad110.add ((x6_1).toNat * 3)).off + 1, none⟩ = some (.int .i64 ((rd_T94 l0 x6_1).f1)) ∧ w'.cell? ⟨(ad110.add ((x6_1).toNat * 3)).block, (ad110.add ((x6_1).toNat * 3)).off + 2, none⟩ = some (.int .i64 ((rd_T94 l0 x6_1).f2))) (ds := []) #[ff,ff,ff,ff,ff,ff,ff,ff,ff,ff] (by kernel_rfl) rfl rfl ⟨(blk_cell BK106.out 0).trans rfl, (blk_cell BK106.out 1).trans rfl, (blk_cell BK106.out 2).trans rfl, ((HB.out.cell (World.block_lt_of_cell? w _ hw110_0)).trans hw110_0), ((HB.out.cell (World.block_lt_of_cell? w _ hw110_1)).trans hw110_1), ((HB.out.cell (World.block_lt_of_cell? w _ hw110_2)).trans hw110_2)⟩ (fun hHeld => ?_); refine with_tabW spec_l09Move.tab5 spec_l09Move.bits5 (fun HT_ HW_ => ?_)
      (generalize wr.drew = w10 at HO_5 BK106 HB hx110_0 hx110_1 hx110_2 hHeld ⊢); (refine on_ 0 (some 14) ?_); (refine on_ 1 (some 15) ?_); (refine on_ 2 (some 16) ?_); (refine on_ 3 (some 17) ?_); (refine tk_ 4 (some 18) ?_); (refine tk_ 5 (some 19) ?_)
      refine o1_ 6 (some 20) (fun K hK => ?_)
      (refine gs_ Try.func89 #[.agg #[.int .i64 ((rd_T94 l0 x6_1).f0), .int .i64 ((rd_T94 l0 x6_1).f1), .int .i64 ((rd_T94 l0 x6_1).f2)], .agg #[.int .i64 a1_0, .int .i64 a1_1, .int .i64 a1_2]] ?_); (with_reducible refine (spec_l09Add.calls ((rd_T94 l0 x6_1).f0) ((rd_T94 l0 x6_1).f1) ((rd_T94 l0 x6_1).f2) a1_0 a1_1 a1_2 t111 t112 t113 _ A8.out).mono ?_); (rintro e w11 ⟨rfl, hb⟩); (refine ⟨_, rfl, ?_⟩); (have n0_ := A0_ (Kd.R_below (by (with_reducible repeat (first | apply Ra_ | apply Rn_ | apply Rd_)); exact HO_5.out) hb)); (have n1_ := A0_ (blk_below (g := gb106) (o := .cells #[.int .i64 a1_0, .int .i64 a1_1, .int .i64 a1_2] 94 (0, 0)) (bk_ BK106) hb)); (have n2_ := A0_ (below_step bx_ hb)); clear HO_5; clear BK106; clear HB; (have HO_5 := n0_); (have BK106 := n1_); (have HB := n2_); clear n0_ n1_ n2_; ((try clear hb)); ((try clear hb2)); ((try clear hk)); ((try clear hi))
      refine hK.out _ _ ⟨(blk_cell BK106.out 0).trans rfl, (blk_cell BK106.out 1).trans rfl, (blk_cell BK106.out 2).trans rfl, ((HB.out.cell (World.block_lt_of_cell? w _ hw110_0)).trans hw110_0), ((HB.out.cell (World.block_lt_of_cell? w _ hw110_1)).trans hw110_1), ((HB.out.cell (World.block_lt_of_cell? w _ hw110_2)).trans hw110_2)⟩ (fun hHeld => ?_)
      clear hK K; (refine nm_ (some 20) ?_)
      refine o1_ 7 (some 21) (fun K hK => ?_)
      (refine value_ (w1 := ?_) (v := ?_) (by rfl) rfl ?_ ?_); (rotate_left 2)
      ·go_simp; (constructor)
       ·rfl
       ·rfl
      refine hK.out _ _ ⟨(blk_cell (blk_alloc BK106.out _) 0).trans rfl, (blk_cell (blk_alloc BK106.out _) 1).trans rfl, (blk_cell (blk_alloc BK106.out _) 2).trans rfl, (World.cell?_alloc_lt _ _ _ (World.block_lt_of_cell? _ _ (((HB.out.cell (World.block_lt_of_cell? w _ hw110_0)).trans hw110_0)))).trans (((HB.out.cell (World.block_lt_of_cell? w _ hw110_0)).trans hw110_0)), (World.cell?_alloc_lt _ _ _ (World.block_lt_of_cell? _ _ (((HB.out.cell (World.block_lt_of_cell? w _ hw110_1)).trans hw110_1)))).trans (((HB.out.cell (World.block_lt_of_cell? w _ hw110_1)).trans hw110_1)), (World.cell?_alloc_lt _ _ _ (World.block_lt_of_cell? _ _ (((HB.out.cell (World.block_lt_of_cell? w _ hw110_2)).trans hw110_2)))).trans (((HB.out.cell (World.block_lt_of_cell? w _ hw110_2)).trans hw110_2))⟩ (fun hHeld => ?_)
      clear hK K; (refine nm_ (some 21) ?_)
      refine o1_ 8 (some 22) (fun K hK => ?_)
      refine Kd.R_append_step k94 (w0 := w) w.heap.size (by rfl) (.tmp 14) (.tmp 21) 35 94 (.agg #[(.int .i64 0), (.int .i64 0), (.int .i64 0)]) 24 rfl Try.underlying35 info94 rfl (by decide) (by omega) u5 x5_1 (⟨t111, t112, t113⟩ : S94) [.int .i64 t111, .int .i64 t112, .int .i64 t113] (fun k_ => k_ ≠ gb106) (fun _ => False) rfl rfl ?aP (fun _ hk => hk.elim) ?aF ?aO ?aB ?aS ?aL ?_
      ((case aP => exact k94_mkM _ _ _ (⟨t111, t112, t113⟩ : S94))); ((case aB => exact bx_))
      (case aF => exact (fun k_ hk => Kd.freshB (g := gb106) (o := .cells #[.int .i64 a1_0, .int .i64 a1_1, .int .i64 a1_2] 94 (0, 0)) (bk_ BK106) k_ hk))
      ((case aO => exact (by (with_reducible repeat (first | apply Ra_ | apply Rn_ | apply Rd_)); exact HO_5.out))); ((case aS => exact (below_size bx_))); ((case aL => have := LMc9.out; omega)); intro v115 w12 ho hb hg hat; (rw [← Ny114.out] at ho)
      have n0_ := A0_ (blk_grown (g := gb106) (o := .cells #[.int .i64 a1_0, .int .i64 a1_1, .int .i64 a1_2] 94 (0, 0)) (bk_ BK106) hg (Kd.R_away HO_5.out (fun _ hk => hk)))
      (have n1_ := A0_ (hb)); (have n2_ := A0_ (ho)); clear BK106; clear HB; clear HO_5; (have BK106 := n0_); (have HB := n1_); (have HO116 := n2_); clear n0_ n1_ n2_; clear ho hb hg hat
      refine hK.out _ _ ⟨(blk_cell BK106.out 0).trans rfl, (blk_cell BK106.out 1).trans rfl, (blk_cell BK106.out 2).trans rfl, ((HB.out.cell (World.block_lt_of_cell? w _ hw110_0)).trans hw110_0), ((HB.out.cell (World.block_lt_of_cell? w _ hw110_1)).trans hw110_1), ((HB.out.cell (World.block_lt_of_cell? w _ hw110_2)).trans hw110_2)⟩ (fun hHeld => ?_)
      clear hK K; (refine nm_ (some 22) ?_); (refine on_ 9 (some 5) ?_); (refine dn_ ?_); (try go_wp2); (go_roundg k1)
      case measure => have := HK1.out; omega
      case rel => exact ⟨(y114), (wrap64 (x6_1 + 1)), (by first | rfl | (simp; done) | (simp [*]; done)), H', ⟨by have := HK1.out; omega⟩, ⟨by (with_reducible repeat (first | apply Ra_ | apply Rn_ | apply Rd_)); exact HO116.out⟩, ⟨by exact bk_ BK106⟩, ⟨by repeat (first | (with_reducible first | exact HB.out | apply ba_ | apply bn_ | apply bd_ | refine below_set ?_ GE106.out) | exact HB.out)⟩⟩
     ·(rw [if_neg c9] at H); (exact absurd H (by simp))
    ·(rw [if_neg c7] at H); (exact absurd H (by simp))
   ·(rw [if_neg c6] at H); (have c6b0 : decide (x6_1 < (l0.length : Int)) = false := decide_eq_false c6); clear c6; (obtain rfl := Option.some.inj H); go_wp2; go_ret
    exact ⟨_, by first | rfl | (simp [errW_none, errW_some] <;> rfl) | (simp [*, errW_none, errW_some] <;> rfl), by (with_reducible repeat (first | apply Ra_ | apply Rn_ | apply Rd_)); exact Kd.R_mono HO_5.out (fun _ hk => trivial), bx_⟩
end
section
attribute [local go_sem] max2_int min2_int max_two min_two max_three min_three max_four min_four
def spec_l27Meet.l0 : Nat → List (S94) → List (S94) → Int → Option (Bool)
  | 0, _, _, _ => none
  | k + 1, x0, x1, x5 => if x5 < (x0.length : Int) then (if 0 ≤ x5 then ((spec_l09Index.f k x1 ((rd_T94 x0 x5).f0) ((rd_T94 x0 x5).f1) ((rd_T94 x0 x5).f2)).bind fun t387 => (if t387 ≥ 0 then (some true) else (spec_l27Meet.l0 k x0 x1 (wrap64 (x5 + 1))))) else (none)) else (some false)
def spec_l27Meet.f (k : Nat) (l0 : List (S94)) (l1 : List (S94)) : Option (Bool) := spec_l27Meet.l0 k l0 l1 0
set_option maxHeartbeats 8000000 in
set_option maxRecDepth 100000 in
theorem spec_l27Meet.calls (k : Nat) (A0 : Option Addr) (c0 : Nat) (l0 : List (S94)) (A1 : Option Addr) (c1 : Nat) (l1 : List (S94)) (r : Bool) (w : World) (hr0 : Kd.C k94 w A0 l0.length l0) (hc0 : l0.length ≤ c0) (hr1 : Kd.C k94 w A1 l1.length l1) (hc1 : l1.length ≤ c1) (h : spec_l27Meet.f k l0 l1 = some r) :
    Calls Try.prog 86 #[.slice A0 l0.length c0, .slice A1 l1.length c1] w fun e w' => e = .returned (.bool r) ∧ Below w.heap.size w w' := by
 (have hu94 := Try.underlying94); (have HR0 := A0_ hr0); (have HC0 := A0_ hc0); clear hr0 hc0; (have HR1 := A0_ hr1); (have HC1 := A0_ hc1); clear hr1 hc1; (have HB := A0_ (Below.refl w.heap.size w)); (have H : (spec_l27Meet.l0 k l0 l1 0) = some r := h); clear h; (have H' := A0_ H); clear H; (go_enter Try.func86, Try.ntmps86); go_wp2
 go_loopg [5] k (fun kq v5 w' => ∃ (x5_1 : Int), v5 = .int .i64 x5_1 ∧ Aside0 (spec_l27Meet.l0 kq l0 l1 x5_1 = some r) ∧ Aside0 (kq ≤ k) ∧ Aside0 (Below w.heap.size w w'))
 case atStart => exact ⟨(0), (by first | rfl | (simp; done) | (simp [*]; done)), H', ⟨Nat.le_refl _⟩, ⟨by repeat (first | (with_reducible first | exact HB.out | apply ba_ | apply bn_ | apply bd_) | exact HB.out)⟩⟩
 case round =>
  clear H'; (try clear c1); (try clear p2); (obtain ⟨x5_1, rfl, HA, HK1, HB⟩ := hrel)
  cases gk with
  | zero => exact absurd HA.out (by simp [spec_l27Meet.l0])
  | succ k1 =>
   (have H := HA.out); clear HA; (simp only [spec_l27Meet.l0] at H); (by_cases c3 : x5_1 < (l0.length : Int))
   ·(rw [if_pos c3] at H); (have c3b0 : decide (x5_1 < (l0.length : Int)) = true := decide_eq_true c3); clear c3; (by_cases c4 : 0 ≤ x5_1)
    ·(rw [if_pos c4] at H); (have c4b0 : decide (0 ≤ x5_1) = true := decide_eq_true c4); clear c4; (replace H := Option.bind_eq_some_iff.mp H); (obtain ⟨t387, A50, H⟩ := H); (try dsimp only at H); (have A5 := A0_ A50); clear A50; (have H0_ := A0_ H); clear H; (have p386 : 0 ≤ (x5_1 : Int) := of_decide_eq_true as_); (have q386 : x5_1 < (l0.length : Int) := of_decide_eq_true as_); (obtain ⟨ad386, e386, hx386_0, hx386_1, hx386_2⟩ := at_T94 HR0.out x5_1 p386 q386); (cases e386); (replace hx386_0 := (HB.out.cell (World.block_lt_of_cell? w _ hx386_0)).trans hx386_0); (replace hx386_1 := (HB.out.cell (World.block_lt_of_cell? w _ hx386_1)).trans hx386_1); (replace hx386_2 := (HB.out.cell (World.block_lt_of_cell? w _ hx386_2)).trans hx386_2); (replace p386 := eq_true p386); (replace q386 := eq_true q386); (go_wp2_with (first | ((with_reducible refine gate_callee (f := 110) rfl ?_); refine gl_ (some 17) Try.func110 #[.slice A1 l1.length c1, .agg #[.int .i64 ((rd_T94 l0 x5_1).f0), .int .i64 ((rd_T94 l0 x5_1).f1), .int .i64 ((rd_T94 l0 x5_1).f2)]] ?_; (with_reducible refine (spec_l09Index.calls k1 _ _ l1 ((rd_T94 l0 x5_1).f0) ((rd_T94 l0 x5_1).f1) ((rd_T94 l0 x5_1).f2) t387 _ ?side1 ?side2 A5.out).mono ?_); (case side1 => exact kc_ (Kd.C_below HR1.out HB.out)); (case side2 => exact HC1.out); rintro e w6 ⟨rfl, hb⟩; refine ⟨_, rfl, ?_⟩; replace HB := A0_ (below_step bw_ hb); (try clear hb); (try clear hb2); (try clear hk); (try clear hi); refine Stop0.out ?_))); (refine Stop0.mk ?_); (have H := H0_.out); clear H0_; (by_cases c7 : t387 ≥ 0)
     ·(rw [if_pos c7] at H); (have c7b0 : decide (0 ≤ t387) = true := decide_eq_true c7); clear c7; (obtain rfl := Option.some.inj H); go_wp2; go_ret; (exact ⟨er_, bx_⟩)
     ·(rw [if_neg c7] at H); (have c7b0 : decide (0 ≤ t387) = false := decide_eq_false c7); clear c7; (have H' := A0_ H); clear H; go_wp2; (go_roundg k1)
      case measure => have := HK1.out; omega
      case rel => exact ⟨(wrap64 (x5_1 + 1)), (by first | rfl | (simp; done) | (simp [*]; done)), H', ⟨by have := HK1.out; omega⟩, ⟨by repeat (first | (with_reducible first | exact HB.out | apply ba_ | apply bn_ | apply bd_) | exact HB.out)⟩⟩
    ·(rw [if_neg c4] at H); (exact absurd H (by simp))
   ·(rw [if_neg c3] at H); (have c3b0 : decide (x5_1 < (l0.length : Int)) = false := decide_eq_false c3); clear c3; (obtain rfl := Option.some.inj H); go_wp2; go_ret; (exact ⟨er_, bx_⟩)
end
theorem sindex_ev (l : List Cb) (x : Cb) (h : l.length ≤ 1048576) : ∃ r : Int, decide (r ≥ 0) = l.contains x ∧ Ev (fun k => spec_l09Index.f k l x.f0 x.f1 x.f2) r := by
 unfold spec_l09Index.f
 refine ev_inv0 l.length (fun (_ : Unit) j => ∀ i (hi : i < j) (hl : i < l.length), l[i] ≠ x) (fun r : Int => decide (r ≥ 0) = l.contains x) (fun _ i k => spec_l09Index.l0 k l i x.f0 x.f1 x.f2) (fun s hi => ?_) (fun s j hj hi => ?_) () (fun i hi => by omega)
 ·refine ⟨-1, ?_, Ev.step (f := fun _ => some (-1)) (fun k => by simp only [spec_l09Index.l0]; rw [if_neg (by omega)]) (Ev.now _)⟩
  have hn : ¬ l.contains x = true := fun hc => by
   rw [List.contains_iff_mem, List.mem_iff_getElem] at hc
   obtain ⟨i, hl, e⟩ := hc
   exact hi i hl hl e
  rw [Bool.eq_false_iff.mpr hn]
  rfl
 ·have hg : rd_T94 l (j : Int) = l[j] := by unfold rd_T94; exact getD_nat l _ j hj
  have e3 : (l[j].f0 == x.f0 && (l[j].f1 == x.f1 && l[j].f2 == x.f2)) = decide (l[j] = x) := eq_cb l[j] x
  have hw := wrap_succ j (show j < 9223372036854775807 by omega)
  by_cases c : l[j] = x
  ·refine .inl ⟨(j : Int), ?_, Ev.step (f := fun _ => some (j : Int)) (fun k => ?_) (Ev.now _)⟩
   ·have : l.contains x = true := by rw [← c, List.contains_iff_mem]; exact List.getElem_mem hj
    rw [this]
    exact decide_eq_true (by omega)
   ·simp only [spec_l09Index.l0, hg, e3, show (j : Int) < (l.length : Int) from by omega, show (0 : Int) ≤ (j : Int) from by omega, if_true, decide_eq_true_eq]
    rw [if_pos c]
  ·refine .inr ⟨(), fun i hi2 hl => ?_, fun r h2 => Ev.succ ?_⟩
   ·by_cases e : i = j
    ·subst e; exact c
    ·exact hi i (by omega) hl
   ·simp only [spec_l09Index.l0, hg, e3, show (j : Int) < (l.length : Int) from by omega, show (0 : Int) ≤ (j : Int) from by omega, if_true, decide_eq_true_eq]
    simp only [c, if_false, hw]
    exact h2
theorem smove_ev (l : List Cb) (d : Cb) (h : l.length ≤ 1048576) : Ev (fun k => spec_l09Move.f k l d.f0 d.f1 d.f2) (l.map fun c => addC c d) := by
 obtain ⟨r, hr, hk⟩ : ∃ r, r = (l.map fun c => addC c d) ∧ Ev (fun k => spec_l09Move.f k l d.f0 d.f1 d.f2) r := by
  unfold spec_l09Move.f
  refine ev_inv0 l.length (fun (s : List Cb) j => s = (l.take j).map fun c => addC c d) (fun r => r = (l.map fun c => addC c d)) (fun s i k => spec_l09Move.l0 k l s i d.f0 d.f1 d.f2) (fun s hi => ?_) (fun s j hj hi => ?_) [] rfl
  ·refine ⟨s, ?_, Ev.step (f := fun _ => some s) (fun k => by simp only [spec_l09Move.l0]; rw [if_neg (by omega)]) (Ev.now _)⟩
   rw [hi, List.take_length]
  ·have hg : rd_T94 l (j : Int) = l[j] := by unfold rd_T94; exact getD_nat l _ j hj
   have hw := wrap_succ j (show j < 9223372036854775807 by omega)
   have hsl : s.length < 5864062014805 := by
    rw [hi, List.length_map, List.length_take]
    omega
   have hnext : ((l.take (j + 1)).map fun c => addC c d) = s ++ [addC l[j] d] := by
    rw [List.take_succ_eq_append_getElem hj, List.map_append, hi]
    rfl
   refine .inr ⟨_, hnext.symm, fun r h2 => Ev.succ ?_⟩
   simp only [spec_l09Move.l0, hg, hsl, spec_l09Add.f, Option.bind_some, if_true, show (j : Int) < (l.length : Int) from by omega, show (0 : Int) ≤ (j : Int) from by omega, hw]
   exact h2
 rw [← hr]
 exact hk
theorem smeet_ev (a b : List Cb) (ha : a.length ≤ 1048576) (hb : b.length ≤ 1048576) : Ev (fun k => spec_l27Meet.f k a b) (a.any fun c => b.contains c) := by
 obtain ⟨r, hr, hk⟩ : ∃ r, r = (a.any fun c => b.contains c) ∧ Ev (fun k => spec_l27Meet.f k a b) r := by
  unfold spec_l27Meet.f
  refine ev_inv0 a.length (fun (_ : Unit) j => (a.take j).any (fun c => b.contains c) = false) (fun r => r = (a.any fun c => b.contains c)) (fun _ i k => spec_l27Meet.l0 k a b i) (fun s hi => ?_) (fun s j hj hi => ?_) () rfl
  ·refine ⟨false, ?_, Ev.step (f := fun _ => some false) (fun k => by simp only [spec_l27Meet.l0]; rw [if_neg (by omega)]) (Ev.now _)⟩
   rw [List.take_length] at hi
   exact hi.symm
  ·have hg : rd_T94 a (j : Int) = a[j] := by unfold rd_T94; exact getD_nat a _ j hj
   have hw := wrap_succ j (show j < 9223372036854775807 by omega)
   obtain ⟨i, hi2, hik⟩ := sindex_ev b a[j] hb
   cases hc : b.contains a[j] with
   | true =>
    rw [hc] at hi2
    have h0 := of_decide_eq_true hi2
    refine .inl ⟨true, (List.any_eq_true.2 ⟨_, List.getElem_mem hj, hc⟩).symm, Ev.step (f := fun k => (spec_l09Index.f k b a[j].f0 a[j].f1 a[j].f2).bind fun t => if t ≥ 0 then some true else spec_l27Meet.l0 k a b (wrap64 ((j : Int) + 1))) (fun k => ?_) (Ev.bind hik (Ev.val fun k => by rw [if_pos h0]))⟩
    simp only [spec_l27Meet.l0, hg, show (j : Int) < (a.length : Int) from by omega, show (0 : Int) ≤ (j : Int) from by omega, if_true]
   | false =>
    rw [hc] at hi2
    have h0 := of_decide_eq_false hi2
    refine .inr ⟨(), ?_, fun r h2 => Ev.step (f := fun k => (spec_l09Index.f k b a[j].f0 a[j].f1 a[j].f2).bind fun t => if t ≥ 0 then some true else spec_l27Meet.l0 k a b (wrap64 ((j : Int) + 1))) (fun k => ?_) (Ev.bind hik ?_)⟩
    ·show (a.take (j + 1)).any _ = false
     rw [List.take_succ_eq_append_getElem hj, List.any_append, hi]
     simp [hc]
     simpa using hc
    ·simp only [spec_l27Meet.l0, hg, show (j : Int) < (a.length : Int) from by omega, show (0 : Int) ≤ (j : Int) from by omega, if_true]
    ·refine Ev.congr (fun k => ?_) h2
     rw [if_neg h0, hw]
 rw [← hr]
 exact hk
end Go.Proofs.Ytcobnlilmihjfaa.A


namespace Go.Proofs.Ytcobnlilmihjfaa.A
open Go.RowKit Go.Proofs.YtcobnlilmihjfaaW.PrintWords Go.Proofs.YtcobnlilmihjfaaW.PrintLast Go.Proofs.YtcobnlilmihjfaaW.PrintMore
set_option linter.unusedVariables false
set_option linter.unusedSimpArgs false
section
attribute [local go_sem] min2_int min_two
theorem Sp.slCell0 {w0 w : World} {rs : List Res} {i e base n c : Nat} {ad : Addr} {xs : List Sl} (h : Sp w0 rs w) (hi : rs[i]? = some (Res.row kSl e base (.slice (some ad) n c) xs)) (hj : 0 < n) : w.cell? ad = some (slV (xs.getD 0 (none, 0, 0))) := by
 have := Sp.slCell h hi 0 hj
 rwa [Addr.add_zero'] at this
theorem Sp.some_ {α : Type} {d : Kd α} {w0 w : World} {rs : List Res} {i e base n c : Nat} {A : Option Addr} {xs : List α} (h : Sp w0 rs w) (hi : rs[i]? = some (Res.row d e base (.slice A n c) xs)) (hn : 0 < n) : ∃ ad, A = some ad := by
 obtain ⟨fp, hp, _⟩ := h.get hi
 have hl := (Kd.R_reads' hp).1
 obtain ⟨g, cap, e, _⟩ := Kd.R_form hp (by omega)
 injection e with e _ _
 exact ⟨_, e⟩
theorem Sp.cubeCell {w0 w : World} {rs : List Res} {i e base n c : Nat} {ad : Addr} {xs : List Cb} (h : Sp w0 rs w) (hi : rs[i]? = some (Res.row kC e base (.slice (some ad) n c) xs)) (j : Nat) (hj : j < n) :
  w.cell? (ad.add (j * 3)) = some (.int .i64 (cAt xs j).f0) ∧ w.cell? ⟨(ad.add (j * 3)).block, (ad.add (j * 3)).off + 1, none⟩ = some (.int .i64 (cAt xs j).f1) ∧ w.cell? ⟨(ad.add (j * 3)).block, (ad.add (j * 3)).off + 2, none⟩ = some (.int .i64 (cAt xs j).f2) := by
 have hn := (Sp.reads h hi).1
 subst hn
 obtain ⟨ad2, e2, h0, h1, h2⟩ := at_T94 (Sp.reads h hi).2.2 (j : Int) (by omega) (by omega)
 injection e2 with e2
 subst e2
 rw [show rd_T94 xs (j : Int) = cAt xs j from rfl] at h0 h1 h2
 rw [Int.toNat_natCast] at h0 h1 h2
 exact ⟨h0, h1, h2⟩
end
theorem inCb_iff (c : Cb) (lo hi : Int) : inCb c lo hi = true ↔ (lo ≤ c.f0 ∧ c.f0 ≤ hi) ∧ (lo ≤ c.f1 ∧ c.f1 ≤ hi) ∧ (lo ≤ c.f2 ∧ c.f2 ≤ hi) := by
 unfold inCb inR
 simp only [Bool.and_eq_true, decide_eq_true_eq]
theorem addC_small {a b : Cb} (ha : inCb a (-200) 200 = true) (hb : inCb b (-200) 200 = true) : addC a b = ⟨a.f0 + b.f0, a.f1 + b.f1, a.f2 + b.f2⟩ := by
 rw [inCb_iff] at ha hb
 unfold addC
 rw [wrap_id (by omega) (by omega), wrap_id (by omega) (by omega), wrap_id (by omega) (by omega)]
theorem subC_small {a b : Cb} (ha : inCb a (-200) 200 = true) (hb : inCb b (-200) 200 = true) : subC a b = ⟨a.f0 - b.f0, a.f1 - b.f1, a.f2 - b.f2⟩ := by
 rw [inCb_iff] at ha hb
 unfold subC
 rw [wrap_id (by omega) (by omega), wrap_id (by omega) (by omega), wrap_id (by omega) (by omega)]
theorem inCb_mono {c : Cb} {lo hi lo' hi' : Int} (h : inCb c lo hi = true) (h1 : lo' ≤ lo) (h2 : hi ≤ hi') : inCb c lo' hi' = true := by
 rw [inCb_iff] at h ⊢
 omega
theorem pair_wide (Pi Pj : List Cb) (oi oj : Cb) (hi : ∀ c ∈ Pi, inCb c 0 7 = true) (hj : ∀ c ∈ Pj, inCb c 0 7 = true) (h1 : inCb oi (-60) 60 = true) (h2 : inCb oj (-60) 60 = true) :
  ((Pi.map fun c => addC c oi).any fun c => (Pj.map fun c => addC c oj).contains c) = (inCb (subC oi oj) (-7) 7 && meets Pj Pi (subC oi oj)) := by
 have b1 := inCb_mono h1 (show (-200 : Int) ≤ -60 by omega) (show (60 : Int) ≤ 200 by omega)
 have b2 := inCb_mono h2 (show (-200 : Int) ≤ -60 by omega) (show (60 : Int) ≤ 200 by omega)
 have hd := subC_small b1 b2
 have hdb : inCb (subC oi oj) (-200) 200 = true := by
  rw [hd, inCb_iff]
  rw [inCb_iff] at h1 h2
  dsimp only
  omega
 rw [Bool.eq_iff_iff, Bool.and_eq_true, List.any_eq_true]
 unfold meets
 rw [List.any_eq_true]
 constructor
 ·rintro ⟨x, hx, hc⟩
  rw [List.mem_map] at hx
  obtain ⟨c, hcm, rfl⟩ := hx
  rw [List.contains_iff_mem, List.mem_map] at hc
  obtain ⟨c', hcm', e⟩ := hc
  have g1 := hi c hcm
  have g2 := hj c' hcm'
  have s1 := inCb_mono g1 (show (-200 : Int) ≤ 0 by omega) (show (7 : Int) ≤ 200 by omega)
  have s2 := inCb_mono g2 (show (-200 : Int) ≤ 0 by omega) (show (7 : Int) ≤ 200 by omega)
  rw [addC_small s2 b2, addC_small s1 b1] at e
  have e0 : c'.f0 + oj.f0 = c.f0 + oi.f0 := congrArg S94.f0 e
  have e1 : c'.f1 + oj.f1 = c.f1 + oi.f1 := congrArg S94.f1 e
  have e2 : c'.f2 + oj.f2 = c.f2 + oi.f2 := congrArg S94.f2 e
  rw [inCb_iff] at g1 g2
  refine ⟨?_, c, hcm, ?_⟩
  ·rw [hd, inCb_iff]
   dsimp only
   omega
  ·rw [List.contains_iff_mem, addC_small s1 hdb, hd]
   have : (⟨c.f0 + (oi.f0 - oj.f0), c.f1 + (oi.f1 - oj.f1), c.f2 + (oi.f2 - oj.f2)⟩ : Cb) = c' := by
    rcases c' with ⟨a0, a1, a2⟩
    dsimp only at e0 e1 e2
    rw [show c.f0 + (oi.f0 - oj.f0) = a0 by omega, show c.f1 + (oi.f1 - oj.f1) = a1 by omega, show c.f2 + (oi.f2 - oj.f2) = a2 by omega]
   dsimp only
   rw [this]
   exact hcm'
 ·rintro ⟨_, c, hcm, hc⟩
  rw [List.contains_iff_mem] at hc
  have g1 := hi c hcm
  have s1 := inCb_mono g1 (show (-200 : Int) ≤ 0 by omega) (show (7 : Int) ≤ 200 by omega)
  have g2 := hj _ hc
  have s2 := inCb_mono g2 (show (-200 : Int) ≤ 0 by omega) (show (7 : Int) ≤ 200 by omega)
  refine ⟨_, List.mem_map.2 ⟨c, hcm, rfl⟩, ?_⟩
  rw [List.contains_iff_mem, List.mem_map]
  refine ⟨_, hc, ?_⟩
  rw [addC_small s2 b2, addC_small s1 hdb, addC_small s1 b1, hd]
  dsimp only
  rw [show c.f0 + (oi.f0 - oj.f0) + oj.f0 = c.f0 + oi.f0 by omega, show c.f1 + (oi.f1 - oj.f1) + oj.f1 = c.f1 + oi.f1 by omega, show c.f2 + (oi.f2 - oj.f2) + oj.f2 = c.f2 + oi.f2 by omega]
theorem pair_same (Pi Pj : List Cb) (oi oj : Cb) (hi : ∀ c ∈ Pi, inCb c 0 7 = true) (hj : ∀ c ∈ Pj, inCb c 0 7 = true) (h1 : inCb oi (-12) 12 = true) (h2 : inCb oj (-12) 12 = true) :
  ((Pi.map fun c => addC c oi).any fun c => (Pj.map fun c => addC c oj).contains c) = (inCb (subC oi oj) (-7) 7 && meets Pj Pi (subC oi oj)) :=
 pair_wide Pi Pj oi oj hi hj (inCb_mono h1 (by omega) (by omega)) (inCb_mono h2 (by omega) (by omega))
def pairT (parts : List (List Cb)) (offs : List Cb) (i j : Nat) : Bool := touchP parts j i (subC (oAt offs i) (oAt offs j))
theorem alone_eq (parts : List (List Cb)) (offs : List Cb) (i : Nat) (hi : i ≤ offs.length) : aloneP parts (offs.take i) i (oAt offs i) = (List.range i).all (fun j => !pairT parts offs i j) := by
 unfold aloneP pairT
 rw [show (offs.take i).length = i by rw [List.length_take]; omega]
 rw [Bool.eq_iff_iff, List.all_eq_true, List.all_eq_true]
 have g : ∀ j, j < i → (offs.take i).getD j ⟨0, 0, 0⟩ = oAt offs j := fun j hj => by
  simp [oAt, List.getD_eq_getElem?_getD, List.getElem?_take, hj]
 constructor
 ·intro h j hj
  have h2 := h j hj
  have hlt := List.mem_range.1 hj
  rw [g j hlt, decide_eq_false (show ¬ (j : Int) = (i : Int) by omega), Bool.false_or] at h2
  exact h2
 ·intro h j hj
  have h2 := h j hj
  have hlt := List.mem_range.1 hj
  rw [g j hlt, decide_eq_false (show ¬ (j : Int) = (i : Int) by omega), Bool.false_or]
  exact h2
def rowC (parts : List (List Cb)) (offs : List Cb) (i : Nat) : Bool := inCb (oAt offs i) (-12) 12 && (List.range i).all (fun k => !pairT parts offs i k)
theorem area_eq (parts : List (List Cb)) (offs : List Cb) : areOffP parts offs = (decide (offs.length = parts.length) && (decide (oAt offs 0 = ⟨0, 0, 0⟩) && (List.range offs.length).all (rowC parts offs))) := by
 unfold areOffP
 congr 2
 unfold clearP
 rw [Bool.eq_iff_iff, Bool.and_eq_true, List.all_eq_true, List.all_eq_true, List.all_eq_true]
 constructor
 ·rintro ⟨h1, h2⟩ i hi
  have hl := List.mem_range.1 hi
  unfold rowC
  rw [← alone_eq parts offs i (by omega), h2 i hi, Bool.and_true]
  have e : oAt offs i = offs[i] := by simp [oAt, List.getD_eq_getElem?_getD, hl]
  rw [e]
  exact h1 _ (List.getElem_mem hl)
 ·intro h
  refine ⟨fun c hc => ?_, fun i hi => ?_⟩
  ·obtain ⟨i, hi, rfl⟩ := List.mem_iff_getElem.1 hc
   have := h i (List.mem_range.2 hi)
   unfold rowC at this
   rw [Bool.and_eq_true] at this
   have e : oAt offs i = offs[i] := by simp [oAt, List.getD_eq_getElem?_getD, hi]
   rw [← e]
   exact this.1
  ·have hl := List.mem_range.1 hi
   have := h i hi
   unfold rowC at this
   rw [Bool.and_eq_true, ← alone_eq parts offs i (by omega)] at this
   exact this.2
section
attribute [local go_sem] max2_int min2_int max_two min_two max_three min_three max_four min_four
def spec_l01In.f (a0 : Int) (a1 : Int) (a2 : Int) : Option (Bool) := if a0 ≥ a1 then (some (decide (a0 ≤ a2))) else (some false)
set_option maxHeartbeats 8000000 in
set_option maxRecDepth 100000 in
theorem spec_l01In.calls (a0 : Int) (a1 : Int) (a2 : Int) (r : Bool) (w : World) (h : spec_l01In.f a0 a1 a2 = some r) :
    Calls Try.prog 64 #[.int .i64 a0, .int .i64 a1, .int .i64 a2] w fun e w' => e = .returned (.bool r) ∧ Drawn0 w w' := by
 (have H : (if a0 ≥ a1 then (some (decide (a0 ≤ a2))) else (some false)) = some r := h); clear h; (by_cases c4 : a0 ≥ a1)
 ·(rw [if_pos c4] at H); (have c4b0 : decide (a1 ≤ a0) = true := decide_eq_true c4); clear c4; (obtain rfl := Option.some.inj H); (go_enter Try.func64, Try.ntmps64); go_wp2; go_ret; (exact ⟨by first | rfl | (simp; done) | (simp [*]; done), by repeat (first | exact Drawn0.refl _ | apply Drawn0.step)⟩)
 ·(rw [if_neg c4] at H); (have c4b0 : decide (a1 ≤ a0) = false := decide_eq_false c4); clear c4; (obtain rfl := Option.some.inj H); (go_enter Try.func64, Try.ntmps64); go_wp2; go_ret; (exact ⟨by first | rfl | (simp; done) | (simp [*]; done), by repeat (first | exact Drawn0.refl _ | apply Drawn0.step)⟩)
end
section
attribute [local go_sem] max2_int min2_int max_two min_two max_three min_three max_four min_four
def spec_l02Cell.f (a0_0 : Int) (a0_1 : Int) : Option (Bool) := (spec_l01In.f a0_0 (-100) 100).bind fun t369 => (if t369 = true then ((spec_l01In.f a0_1 (-100) 100).bind fun t370 => (some t370)) else (some false))
set_option maxHeartbeats 8000000 in
set_option maxRecDepth 100000 in
theorem spec_l02Cell.calls (a0_0 : Int) (a0_1 : Int) (r : Bool) (w : World) (h : spec_l02Cell.f a0_0 a0_1 = some r) :
    Calls Try.prog 118 #[.agg #[.int .i64 a0_0, .int .i64 a0_1]] w fun e w' => e = .returned (.bool r) ∧ Below w.heap.size w w' := by
 (have hu144 := Try.underlying144); (have HB := A0_ (Below.refl w.heap.size w))
 have H : ((spec_l01In.f a0_0 (-100) 100).bind fun t369 => (if t369 = true then ((spec_l01In.f a0_1 (-100) 100).bind fun t370 => (some t370)) else (some false))) = some r := h
 clear h; (replace H := Option.bind_eq_some_iff.mp H); (obtain ⟨t369, A20, H⟩ := H); (try dsimp only at H); (have A2 := A0_ A20); clear A20; (have H0_ := A0_ H); clear H; (go_enter Try.func118, Try.ntmps118); (go_wp2_with (first | ((with_reducible refine gate_dst (N := 1) rfl ?_); refine be_ (N := 1) (cs := #[.int .i64 a0_0, .int .i64 a0_1]) (t := 144) ?_; intro gb368 hg w3 hbox hb; have n0_ := A0_ (below_step bw_ hb); have n1_ := A0_ (hbox); have n2_ := A0_ ((by rw [hg]; exact (below_size bw_) : w.heap.size ≤ gb368)); have n3_ := A0_ ((by rw [hg]; exact (below_size bw_) : w.heap.size ≤ gb368)); clear HB; have HB := n0_; have BK368 := n1_; have GW368 := n2_; have GE368 := n3_; clear n0_ n1_ n2_ n3_; clear hb hbox hg; have hcz4_0 : w3.cell? ⟨gb368, 0, none⟩ = some (.int .i64 a0_0) := (blk_cell BK368.out 0).trans rfl; have hcz4_1 : w3.cell? ⟨gb368, 1, none⟩ = some (.int .i64 a0_1) := (blk_cell BK368.out 1).trans rfl; have hfz4_0 := blk_frozen BK368.out 0; have hfz4_1 := blk_frozen BK368.out 1) | ((with_reducible refine gate_callee (f := 64) rfl ?_); refine gl_ (some 5) Try.func64 #[.int .i64 a0_0, .int .i64 (-100), .int .i64 100] ?_; (with_reducible refine (spec_l01In.calls a0_0 (-100) 100 t369 _ A2.out).mono ?_); rintro e w' ⟨rfl, ⟨nd, rfl⟩⟩; refine ⟨_, rfl, ?_⟩; refine Stop0.out ?_))); (refine Stop0.mk ?_); (have H := H0_.out); clear H0_; (by_cases c5 : t369 = true)
 ·subst c5; (have H1 := H); (rw [if_pos rfl] at H1); clear H; (have H := H1); clear H1; (replace H := Option.bind_eq_some_iff.mp H); (obtain ⟨t370, A60, H⟩ := H); (try dsimp only at H); (have A6 := A0_ A60); clear A60; (have H0_ := A0_ H); clear H; (have hcz7_0 : w3.cell? ⟨gb368, 0, none⟩ = some (.int .i64 a0_0) := (blk_cell BK368.out 0).trans rfl); (have hcz7_1 : w3.cell? ⟨gb368, 1, none⟩ = some (.int .i64 a0_1) := (blk_cell BK368.out 1).trans rfl); (have hfz7_0 := blk_frozen BK368.out 0); (have hfz7_1 := blk_frozen BK368.out 1); (go_wp2_with (first | (go_at_call 64; (with_reducible refine (spec_l01In.calls a0_1 (-100) 100 t370 _ A6.out).mono ?_); rintro e w' ⟨rfl, ⟨nd, rfl⟩⟩; refine Stop0.out ?_))); (refine Stop0.mk ?_); (have H := H0_.out); clear H0_; (obtain rfl := Option.some.inj H); go_wp2; go_ret; (exact ⟨er_, bx_⟩)
 ·(replace c5 := Bool.eq_false_iff.mpr c5); subst c5; (have H1 : (some false) = some r := by rw [if_neg (show ¬ (false = true) by decide)] at H; exact H); clear H; (have H := H1); clear H1; (obtain rfl := Option.some.inj H); go_wp2; go_ret; (exact ⟨er_, bx_⟩)
end
section
attribute [local go_sem] max2_int min2_int max_two min_two max_three min_three max_four min_four
def spec_l09Cube.f (a0_0 : Int) (a0_1 : Int) (a0_2 : Int) : Option (Bool) := (spec_l02Cell.f a0_0 a0_1).bind fun t372 => (if t372 = true then ((spec_l01In.f a0_2 (-100) 100).bind fun t373 => (some t373)) else (some false))
set_option maxHeartbeats 8000000 in
set_option maxRecDepth 100000 in
theorem spec_l09Cube.calls (a0_0 : Int) (a0_1 : Int) (a0_2 : Int) (r : Bool) (w : World) (h : spec_l09Cube.f a0_0 a0_1 a0_2 = some r) :
    Calls Try.prog 108 #[.agg #[.int .i64 a0_0, .int .i64 a0_1, .int .i64 a0_2]] w fun e w' => e = .returned (.bool r) ∧ Below w.heap.size w w' := by
 (have hu94 := Try.underlying94); (have hu144 := Try.underlying144); (have HB := A0_ (Below.refl w.heap.size w))
 have H : ((spec_l02Cell.f a0_0 a0_1).bind fun t372 => (if t372 = true then ((spec_l01In.f a0_2 (-100) 100).bind fun t373 => (some t373)) else (some false))) = some r := h
 clear h; (replace H := Option.bind_eq_some_iff.mp H); (obtain ⟨t372, A20, H⟩ := H); (try dsimp only at H); (have A2 := A0_ A20); clear A20; (have H0_ := A0_ H); clear H; (go_enter Try.func108, Try.ntmps108); (go_wp2_with (first | ((with_reducible refine gate_dst (N := 1) rfl ?_); refine be_ (N := 1) (cs := #[.int .i64 a0_0, .int .i64 a0_1, .int .i64 a0_2]) (t := 94) ?_; intro gb371 hg w3 hbox hb; have n0_ := A0_ (below_step bw_ hb); have n1_ := A0_ (hbox); have n2_ := A0_ ((by rw [hg]; exact (below_size bw_) : w.heap.size ≤ gb371)); have n3_ := A0_ ((by rw [hg]; exact (below_size bw_) : w.heap.size ≤ gb371)); clear HB; have HB := n0_; have BK371 := n1_; have GW371 := n2_; have GE371 := n3_; clear n0_ n1_ n2_ n3_; clear hb hbox hg; have hcz4_0 : w3.cell? ⟨gb371, 0, none⟩ = some (.int .i64 a0_0) := (blk_cell BK371.out 0).trans rfl; have hcz4_1 : w3.cell? ⟨gb371, 1, none⟩ = some (.int .i64 a0_1) := (blk_cell BK371.out 1).trans rfl; have hcz4_2 : w3.cell? ⟨gb371, 2, none⟩ = some (.int .i64 a0_2) := (blk_cell BK371.out 2).trans rfl; have hfz4_0 := blk_frozen BK371.out 0; have hfz4_1 := blk_frozen BK371.out 1; have hfz4_2 := blk_frozen BK371.out 2) | ((with_reducible refine gate_callee (f := 118) rfl ?_); refine gl_ (some 8) Try.func118 #[.agg #[.int .i64 a0_0, .int .i64 a0_1]] ?_; (with_reducible refine (spec_l02Cell.calls a0_0 a0_1 t372 _ A2.out).mono ?_); rintro e w5 ⟨rfl, hb⟩; refine ⟨_, rfl, ?_⟩; have n0_ := A0_ (blk_below (g := gb371) (o := .cells #[.int .i64 a0_0, .int .i64 a0_1, .int .i64 a0_2] 94 (0, 0)) (bk_ BK371) hb); have n1_ := A0_ (below_step bx_ hb); clear BK371; clear HB; have BK371 := n0_; have HB := n1_; clear n0_ n1_; (try clear hb); (try clear hb2); (try clear hk); (try clear hi); refine Stop0.out ?_))); (refine Stop0.mk ?_); (have H := H0_.out); clear H0_; (by_cases c6 : t372 = true)
 ·subst c6; (have H1 := H); (rw [if_pos rfl] at H1); clear H; (have H := H1); clear H1; (replace H := Option.bind_eq_some_iff.mp H); (obtain ⟨t373, A70, H⟩ := H); (try dsimp only at H); (have A7 := A0_ A70); clear A70; (have H0_ := A0_ H); clear H; (have hcz8_0 : w5.cell? ⟨gb371, 0, none⟩ = some (.int .i64 a0_0) := (blk_cell BK371.out 0).trans rfl); (have hcz8_1 : w5.cell? ⟨gb371, 1, none⟩ = some (.int .i64 a0_1) := (blk_cell BK371.out 1).trans rfl); (have hcz8_2 : w5.cell? ⟨gb371, 2, none⟩ = some (.int .i64 a0_2) := (blk_cell BK371.out 2).trans rfl); (have hfz8_0 := blk_frozen BK371.out 0); (have hfz8_1 := blk_frozen BK371.out 1); (have hfz8_2 := blk_frozen BK371.out 2); (go_wp2_with (first | (go_at_call 64; (with_reducible refine (spec_l01In.calls a0_2 (-100) 100 t373 _ A7.out).mono ?_); rintro e w' ⟨rfl, ⟨nd, rfl⟩⟩; refine Stop0.out ?_))); (refine Stop0.mk ?_); (have H := H0_.out); clear H0_; (obtain rfl := Option.some.inj H); go_wp2; go_ret; (exact ⟨er_, bx_⟩)
 ·(replace c6 := Bool.eq_false_iff.mpr c6); subst c6; (have H1 : (some false) = some r := by rw [if_neg (show ¬ (false = true) by decide)] at H; exact H); clear H; (have H := H1); clear H1; (obtain rfl := Option.some.inj H); go_wp2; go_ret; (exact ⟨er_, bx_⟩)
end
section
attribute [local go_sem] max2_int min2_int max_two min_two max_three min_three max_four min_four
def spec_l27Vector.f (a0 : Int) : Option (Int × Int × Int) := (some (([(⟨(-1), 0, 0⟩ : S94), (⟨1, 0, 0⟩ : S94), (⟨0, (-1), 0⟩ : S94), (⟨0, 1, 0⟩ : S94), (⟨0, 0, (-1)⟩ : S94), (⟨0, 0, 1⟩ : S94)] : List (S94)) : List (S94))).bind fun y405 => (if 0 ≤ a0 then (if a0 < (y405.length : Int) then (some ((rd_T94 y405 a0).f0, (rd_T94 y405 a0).f1, (rd_T94 y405 a0).f2)) else (none)) else (none))
set_option maxHeartbeats 8000000 in
set_option maxRecDepth 100000 in
theorem spec_l27Vector.calls (a0 : Int) (r1 : Int) (r2 : Int) (r3 : Int) (w : World) (h : spec_l27Vector.f a0 = some (r1, r2, r3)) :
    Calls Try.prog 90 #[.int .i64 a0] w fun e w' => e = .returned (.agg #[.int .i64 r1, .int .i64 r2, .int .i64 r3]) ∧ Below w.heap.size w w' := by
 (have hu94 := Try.underlying94); (have HB := A0_ (Below.refl w.heap.size w))
 have H : ((some (([(⟨(-1), 0, 0⟩ : S94), (⟨1, 0, 0⟩ : S94), (⟨0, (-1), 0⟩ : S94), (⟨0, 1, 0⟩ : S94), (⟨0, 0, (-1)⟩ : S94), (⟨0, 0, 1⟩ : S94)] : List (S94)) : List (S94))).bind fun y405 => (if 0 ≤ a0 then (if a0 < (y405.length : Int) then (some ((rd_T94 y405 a0).f0, (rd_T94 y405 a0).f1, (rd_T94 y405 a0).f2)) else (none)) else (none))) = some (r1, r2, r3) := h
 clear h; (obtain ⟨y405, hy405⟩ : ∃ y_ : List (S94), y_ = (([(⟨(-1), 0, 0⟩ : S94), (⟨1, 0, 0⟩ : S94), (⟨0, (-1), 0⟩ : S94), (⟨0, 1, 0⟩ : S94), (⟨0, 0, (-1)⟩ : S94), (⟨0, 0, 1⟩ : S94)] : List (S94))) := ⟨_, rfl⟩); (replace H : (if 0 ≤ a0 then (if a0 < (y405.length : Int) then (some ((rd_T94 y405 a0).f0, (rd_T94 y405 a0).f1, (rd_T94 y405 a0).f2)) else (none)) else (none)) = some (r1, r2, r3) := by first | (rw [hy405]; with_reducible exact H) | (have H2_ := (Option.bind_some _ _).symm.trans H; rw [hy405]; with_reducible exact H2_) | (have H2_ := (Option.bind_some _ _).symm.trans H; with_reducible exact H2_) | with_reducible exact H | (rw [hy405]; exact H) | exact H); (have Ny405 := A0_ hy405); clear hy405; (by_cases c2 : 0 ≤ a0)
 ·(rw [if_pos c2] at H); (have c2b0 : decide (0 ≤ a0) = true := decide_eq_true c2); clear c2; (by_cases c3 : a0 < (y405.length : Int))
  ·(rw [if_pos c3] at H); (have c3b0 : decide (a0 < (y405.length : Int)) = true := decide_eq_true c3); clear c3; (simp only [Option.some.injEq, Prod.mk.injEq] at H); (obtain ⟨rfl, rfl, rfl⟩ := H); (go_enter Try.func90, Try.ntmps90)
   go_wp2_with (first | ((with_reducible refine gate_dst (N := 2) rfl ?_); refine be_ (N := 2) (cs := #[.int .i64 0, .int .i64 0, .int .i64 0]) (t := 94) ?_; intro gb404 hg w4 hbox hb; have n0_ := A0_ (below_step bw_ hb); have n1_ := A0_ (hbox); have n2_ := A0_ ((by rw [hg]; exact (below_size bw_) : w.heap.size ≤ gb404)); have n3_ := A0_ ((by rw [hg]; exact (below_size bw_) : w.heap.size ≤ gb404)); clear HB; have HB := n0_; have BK404 := n1_; have GW404 := n2_; have GE404 := n3_; clear n0_ n1_ n2_ n3_; clear hb hbox hg) | ((with_reducible refine gate_dst (N := 9) rfl ?_); refine Kd.R_lit k94 _ 94 ?hg (N := 9) ?hd (xs := ([(⟨(-1), 0, 0⟩ : S94), (⟨1, 0, 0⟩ : S94), (⟨0, (-1), 0⟩ : S94), (⟨0, 1, 0⟩ : S94), (⟨0, 0, (-1)⟩ : S94), (⟨0, 0, 1⟩ : S94)] : List (S94))) (inner := [.int .i64 (-1), .int .i64 0, .int .i64 0, .int .i64 1, .int .i64 0, .int .i64 0, .int .i64 0, .int .i64 (-1), .int .i64 0, .int .i64 0, .int .i64 1, .int .i64 0, .int .i64 0, .int .i64 0, .int .i64 (-1), .int .i64 0, .int .i64 0, .int .i64 1]) (ok := fun _ => True) (okp := fun _ => True) ?hr ?hp (fun _ hk => hk) trivial (Below.refl _ _) (Nat.le_refl _) (by simp) ?_; (case hd => rfl); (case hg => rfl); (case hr => first | (go_simp; done) | (go_simp; rfl)); (case hp => exact (Reps.c3 (show Kd.M k94 _ _ _ (⟨(-1), 0, 0⟩ : S94) [.int .i64 (-1), .int .i64 0, .int .i64 0] from (k94_mkM _ _ _ (⟨(-1), 0, 0⟩ : S94) )) (Reps.c3 (show Kd.M k94 _ _ _ (⟨1, 0, 0⟩ : S94) [.int .i64 1, .int .i64 0, .int .i64 0] from (k94_mkM _ _ _ (⟨1, 0, 0⟩ : S94) )) (Reps.c3 (show Kd.M k94 _ _ _ (⟨0, (-1), 0⟩ : S94) [.int .i64 0, .int .i64 (-1), .int .i64 0] from (k94_mkM _ _ _ (⟨0, (-1), 0⟩ : S94) )) (Reps.c3 (show Kd.M k94 _ _ _ (⟨0, 1, 0⟩ : S94) [.int .i64 0, .int .i64 1, .int .i64 0] from (k94_mkM _ _ _ (⟨0, 1, 0⟩ : S94) )) (Reps.c3 (show Kd.M k94 _ _ _ (⟨0, 0, (-1)⟩ : S94) [.int .i64 0, .int .i64 0, .int .i64 (-1)] from (k94_mkM _ _ _ (⟨0, 0, (-1)⟩ : S94) )) (Reps.c3 (show Kd.M k94 _ _ _ (⟨0, 0, 1⟩ : S94) [.int .i64 0, .int .i64 0, .int .i64 1] from (k94_mkM _ _ _ (⟨0, 0, 1⟩ : S94) )) (Reps.none _ _)))))))); intro v406 w5 ho6 hb hg_ hnew_; clear hg_ hnew_; (first | rw [← Ny405.out] at ho6 | (simp only [Int.reduceToNat] at ho6; rw [← Ny405.out] at ho6)); have n0_ := A0_ (Kd.R_lower (Kd.R_newB ho6 (g := gb404) (o := .cells #[.int .i64 0, .int .i64 0, .int .i64 0] 94 (0, 0)) (bk_ BK404)) (below_size bx_)); have n1_ := A0_ (blk_below (g := gb404) (o := .cells #[.int .i64 0, .int .i64 0, .int .i64 0] 94 (0, 0)) (bk_ BK404) hb); have n2_ := A0_ (below_step bx_ hb); clear BK404; clear HB; have HO407 := n0_; have BK404 := n1_; have HB := n2_; clear n0_ n1_ n2_; clear hb ho6; obtain ⟨Ao7, co7, eo7⟩ := Kd.R_slice HO407.out; subst eo7; have p408 : 0 ≤ (a0 : Int) := of_decide_eq_true as_; have q408 : a0 < (y405.length : Int) := of_decide_eq_true as_; obtain ⟨ad408, e408, hx408_0, hx408_1, hx408_2⟩ := at_T94 (Kd.R_reads' HO407.out).2.2 a0 p408 q408; cases e408; replace p408 := eq_true p408; replace q408 := eq_true q408; have hcz8_0 : w5.cell? ⟨gb404, 0, none⟩ = some (.int .i64 0) := (blk_cell BK404.out 0).trans rfl; have hcz8_1 : w5.cell? ⟨gb404, 1, none⟩ = some (.int .i64 0) := (blk_cell BK404.out 1).trans rfl; have hcz8_2 : w5.cell? ⟨gb404, 2, none⟩ = some (.int .i64 0) := (blk_cell BK404.out 2).trans rfl; have hfz8_0 := blk_frozen BK404.out 0; have hfz8_1 := blk_frozen BK404.out 1; have hfz8_2 := blk_frozen BK404.out 2))
   (refine bodyPost_ret (results_cell_row rfl _ _ gb404 94 #[.int .i64 ((rd_T94 y405 a0).f0), .int .i64 ((rd_T94 y405 a0).f1), .int .i64 ((rd_T94 y405 a0).f2)] (0, 0) _ rfl (by (with_reducible repeat (first | apply gn_ | apply gd_ | apply ga_)); refine blk_put (cs := #[.int .i64 ((rd_T94 y405 a0).f0), .int .i64 ((rd_T94 y405 a0).f1), .int .i64 0]) ?_ 2 _ rfl; (with_reducible repeat (first | apply gn_ | apply gd_ | apply ga_)); refine blk_put (cs := #[.int .i64 ((rd_T94 y405 a0).f0), .int .i64 0, .int .i64 0]) ?_ 1 _ rfl; (with_reducible repeat (first | apply gn_ | apply gd_ | apply ga_)); refine blk_put (cs := #[.int .i64 0, .int .i64 0, .int .i64 0]) ?_ 0 _ rfl; exact bk_ BK404) Try.underlying94 rfl (by kernel_rfl)) rfl ?_); (exact ⟨er_, bx_⟩)
  ·(rw [if_neg c3] at H); (exact absurd H (by simp))
 ·(rw [if_neg c2] at H); (exact absurd H (by simp))
end
theorem in_eq (a lo hi : Int) : spec_l01In.f a lo hi = some (inR a lo hi) := by
 unfold spec_l01In.f inR
 by_cases h : a ≥ lo
 ·rw [if_pos h, decide_eq_true (show lo ≤ a from h), Bool.true_and]
 ·rw [if_neg h, decide_eq_false (show ¬ lo ≤ a from h), Bool.false_and]
theorem less_eq (a b : Cb) : spec_l09Less.f a.f0 a.f1 a.f2 b.f0 b.f1 b.f2 = some (lessC a b) := by
 unfold spec_l09Less.f lessC
 by_cases c2 : a.f2 < b.f2
 ·rw [if_pos c2, if_neg (by omega), decide_eq_true c2]
 ·rw [if_neg c2]
  by_cases e2 : a.f2 = b.f2
  ·rw [if_pos e2, if_pos e2]
   by_cases c1 : a.f1 < b.f1
   ·rw [if_pos c1, if_neg (by omega), decide_eq_true c1]
   ·rw [if_neg c1]
    by_cases e1 : a.f1 = b.f1
    ·rw [if_pos e1, if_pos e1]
    ·rw [if_neg e1, if_neg e1, decide_eq_false c1]
  ·rw [if_neg e2, if_neg e2, decide_eq_false c2]
theorem cube_eq (c : Cb) : spec_l09Cube.f c.f0 c.f1 c.f2 = some (inCb c (-100) 100) := by
 unfold spec_l09Cube.f spec_l02Cell.f inCb
 simp only [in_eq, Option.bind_some]
 cases inR c.f0 (-100) 100 <;> cases inR c.f1 (-100) 100 <;> simp
theorem vec_eq (q : Int) (h : 0 ≤ q ∧ q < 6) : spec_l27Vector.f q = some ((vecP q).f0, (vecP q).f1, (vecP q).f2) := by
 obtain h | h | h | h | h | h : q = 0 ∨ q = 1 ∨ q = 2 ∨ q = 3 ∨ q = 4 ∨ q = 5 := by omega
 all_goals subst h; rfl
def spec_l27Clear.f (k : Nat) (l : List (List Cb)) (offs : List Cb) : Option Bool := if (1 ≤ l.length ∧ l.length ≤ 8) ∧ (∀ p ∈ l, p.length ≤ 1048576) ∧ (∀ p ∈ l, ∀ c ∈ p, inCb c 0 7 = true) then some (areOffP l offs) else none
theorem move_at (l : List Cb) (d : Cb) (h : l.length ≤ 1048576) : ∃ K m, m = (l.map fun c => addC c d) ∧ m.length = l.length ∧ spec_l09Move.f K l d.f0 d.f1 d.f2 = some m := by
 (obtain ⟨K, hK⟩ := (smove_ev l d h).rounds); (exact ⟨K, _, rfl, List.length_map _, hK⟩)
theorem pair_at (parts : List (List Cb)) (offs : List Cb) (i j : Nat) (hi : ∀ c ∈ pAt parts i, inCb c 0 7 = true) (hj : ∀ c ∈ pAt parts j, inCb c 0 7 = true) (h1 : inCb (oAt offs i) (-12) 12 = true) (h2 : inCb (oAt offs j) (-12) 12 = true) :
    (((pAt parts i).map fun c => addC c (oAt offs i)).any fun c => ((pAt parts j).map fun c => addC c (oAt offs j)).contains c) = pairT parts offs i j := pair_same _ _ _ _ hi hj h1 h2
def sclF.T12 : Bool × List (List Nat × List Nat) := (true, [([], []), ([0], [0]), ([], []), ([1, 2], [1, 2]), ([3], [3]), ([], []), ([4, 5], [4, 5]), ([], []), ([7], [7]), ([], []), ([8, 9], [8, 9]), ([10], [10]), ([], []), ([], []), ([12, 13], [12, 13]), ([14], [14]), ([11, 15, 6], [11, 15]), ([6, 16, 16], [6, 16])])
def sclF.B12 : List Nat := [0, 1, 0, 7, 15, 0, 63, 0, 128, 0, 896, 1920, 0, 0, 12288, 28672, 65535, 131071]
theorem sclF.tab12 : rtab .any (opsOf Try.f88 12) = sclF.T12 := by kernel_rfl
theorem sclF.bits12 : waitsOk sclF.T12.2 sclF.B12 = true := by kernel_rfl
set_option maxHeartbeats 4000000 in
set_option maxRecDepth 100000 in
theorem spec_l27Clear.calls (k : Nat) (A0_0 : Option Addr) (c0_0 : Nat) (l0_0 : List (List Cb)) (A1 : Option Addr) (c1 : Nat) (l1 : List Cb) (r : Bool) (w : World) (hr0_0 : Kd.C (Kd.slice 94 k94) w A0_0 l0_0.length l0_0) (hc0_0 : l0_0.length ≤ c0_0) (hr1 : Kd.C k94 w A1 l1.length l1) (hc1 : l1.length ≤ c1) (h : spec_l27Clear.f k l0_0 l1 = some r) :
    Calls Try.prog 88 #[.agg #[.slice A0_0 l0_0.length c0_0], .slice A1 l1.length c1] w fun e w' => e = .returned (.bool r) ∧ Below w.heap.size w w' := by
 (have hu32 := Try.underlying26); (have hu69 := Try.underlying94); (unfold spec_l27Clear.f at h); (split at h)
 case isFalse => cases h
 (rename_i hz); (obtain rfl := Option.some.inj h); (have HR0 := A0_ hr0_0); (have HR1 := A0_ hr1); (have HZ := A0_ hz); (have HS := A0_ (Sp.start w)); (have hae := area_eq l0_0 l1); clear hr0_0 hr1 hz h; (by_cases hl : l1.length = l0_0.length)
 case neg =>
  (have HF := A0_ (show areOffP l0_0 l1 = false by rw [hae, decide_eq_false hl, Bool.false_and])); (have d1 : ((l1.length : Int) != (l0_0.length : Int)) = true := by rw [bne_iff_ne]; omega); (have d2 : (l1.length = l0_0.length) = False := eq_false hl); clear hl hae; (go_enter Try.func88, Try.ntmps88)
  go_wp2_with (first
   | ((with_reducible refine gate_dst (N := 2) rfl ?_); refine be_ (N := 2) (cs := #[.slice A0_0 l0_0.length c0_0]) (t := 26) ?_; intro ga hgb_ wb_ hcb_ hbb_; replace HS := A0_ (Sp.boxed HS.out hgb_ hcb_ hbb_); clear hgb_ hcb_ hbb_; have ha0 := (cl_ HS 0 0 rfl).trans rfl))
  go_ret; (exact ⟨by rw [HF.out]; rfl, HS.out.below⟩)
 (have HLN := A0_ hl); (rw [decide_eq_true hl, Bool.true_and] at hae); (have d1 : ((l1.length : Int) != (l0_0.length : Int)) = false := by rw [bne_eq_false_iff_eq]; omega); (have d2 : (l1.length = l0_0.length) = True := eq_true hl); (have p0 : (0 < l1.length) = True := eq_true (by have := HZ.out.1; omega)); (have p1 : ((0 : Int) < (l1.length : Int)) = True := eq_true (by have := HZ.out.1; omega)); (obtain ⟨ado, e, hx0, hx1, hx2⟩ := at_T94 HR1.out 0 (by omega) (by have := HZ.out.1; omega)); subst e; (rw [show rd_T94 l1 0 = oAt l1 0 from rfl] at hx0 hx1 hx2); (rw [show (0 : Int).toNat * 3 = 0 from rfl, Addr.add_zero'] at hx0 hx1 hx2); (obtain ⟨q, hq⟩ : ∃ q, q = oAt l1 0 := ⟨_, rfl⟩); (rw [← hq] at hx0 hx1 hx2 hae)
 cases hz : decide (q = ⟨0, 0, 0⟩) with
 | false =>
  (have HF := A0_ (show areOffP l0_0 l1 = false by rw [hae, hz, Bool.false_and]))
  have hd : q.f0 ≠ 0 ∨ (q.f0 = 0 ∧ q.f1 ≠ 0) ∨ (q.f0 = 0 ∧ q.f1 = 0 ∧ q.f2 ≠ 0) := by
   (have h := of_decide_eq_false hz); (rcases q with ⟨q0, q1, q2⟩); (by_cases e0 : q0 = 0)
   ·(by_cases e1 : q1 = 0)
    ·refine .inr (.inr ⟨e0, e1, fun e2 => h ?_⟩)
     (subst e0 e1); (simp only at e2); subst e2; rfl
    ·(exact .inr (.inl ⟨e0, e1⟩))
   ·(exact .inl e0)
  clear hz hae hl hq; (rcases hd with h0 | ⟨h0, h1⟩ | ⟨h0, h1, h2⟩)
  ·(have z0 : (q.f0 = 0) = False := eq_false h0); (have z0' : (q.f0 == 0) = false := by rw [beq_eq_false_iff_ne]; exact h0); (have HX0 := A0_ hx0); (have HX1 := A0_ hx1); (have HX2 := A0_ hx2); clear h0 hx0 hx1 hx2; (go_enter Try.func88, Try.ntmps88)
   go_wp2_with (first
    | ((with_reducible refine gate_dst (N := 2) rfl ?_); refine be_ (N := 2) (cs := #[.slice A0_0 l0_0.length c0_0]) (t := 26) ?_; intro ga hgb_ wb_ hcb_ hbb_; replace HS := A0_ (Sp.boxed HS.out hgb_ hcb_ hbb_); clear hgb_ hcb_ hbb_; have ha0 := (cl_ HS 0 0 rfl).trans rfl; have hx0 := pw_cell_below HS.out.below HX0.out; have hx1 := pw_cell_below HS.out.below HX1.out; have hx2 := pw_cell_below HS.out.below HX2.out))
   go_ret; (exact ⟨by rw [HF.out]; rfl, HS.out.below⟩)
  ·(rw [h0] at hx0); (have z1 : (q.f1 = 0) = False := eq_false h1); (have z1' : (q.f1 == 0) = false := by rw [beq_eq_false_iff_ne]; exact h1); (have HX0 := A0_ hx0); (have HX1 := A0_ hx1); (have HX2 := A0_ hx2); clear h0 h1 hx0 hx1 hx2; (go_enter Try.func88, Try.ntmps88)
   go_wp2_with (first
    | ((with_reducible refine gate_dst (N := 2) rfl ?_); refine be_ (N := 2) (cs := #[.slice A0_0 l0_0.length c0_0]) (t := 26) ?_; intro ga hgb_ wb_ hcb_ hbb_; replace HS := A0_ (Sp.boxed HS.out hgb_ hcb_ hbb_); clear hgb_ hcb_ hbb_; have ha0 := (cl_ HS 0 0 rfl).trans rfl; have hx0 := pw_cell_below HS.out.below HX0.out; have hx1 := pw_cell_below HS.out.below HX1.out; have hx2 := pw_cell_below HS.out.below HX2.out))
   go_ret; (exact ⟨by rw [HF.out]; rfl, HS.out.below⟩)
  ·(rw [h0] at hx0); (rw [h1] at hx1); (have z2 : (q.f2 = 0) = False := eq_false h2); (have z2' : (q.f2 == 0) = false := by rw [beq_eq_false_iff_ne]; exact h2); (have HX0 := A0_ hx0); (have HX1 := A0_ hx1); (have HX2 := A0_ hx2); clear h0 h1 h2 hx0 hx1 hx2; (go_enter Try.func88, Try.ntmps88)
   go_wp2_with (first
    | ((with_reducible refine gate_dst (N := 2) rfl ?_); refine be_ (N := 2) (cs := #[.slice A0_0 l0_0.length c0_0]) (t := 26) ?_; intro ga hgb_ wb_ hcb_ hbb_; replace HS := A0_ (Sp.boxed HS.out hgb_ hcb_ hbb_); clear hgb_ hcb_ hbb_; have ha0 := (cl_ HS 0 0 rfl).trans rfl; have hx0 := pw_cell_below HS.out.below HX0.out; have hx1 := pw_cell_below HS.out.below HX1.out; have hx2 := pw_cell_below HS.out.below HX2.out))
   go_ret; (exact ⟨by rw [HF.out]; rfl, HS.out.below⟩)
 | true =>
  (rw [hz, Bool.true_and] at hae); (obtain rfl := of_decide_eq_true hz); (have HAE := A0_ hae); (have HX0 := A0_ hx0); (have HX1 := A0_ hx1); (have HX2 := A0_ hx2); clear hx0 hx1 hx2 hq hl hae hz; (go_enter Try.func88, Try.ntmps88)
  go_wp2_with (first
   | ((with_reducible refine gate_dst (N := 2) rfl ?_); refine be_ (N := 2) (cs := #[.slice A0_0 l0_0.length c0_0]) (t := 26) ?_; intro ga hgb_ wb_ hcb_ hbb_; replace HS := A0_ (Sp.boxed HS.out hgb_ hcb_ hbb_); clear hgb_ hcb_ hbb_; have ha0 := (cl_ HS 0 0 rfl).trans rfl; have hx0 := pw_cell_below HS.out.below HX0.out; have hx1 := pw_cell_below HS.out.below HX1.out; have hx2 := pw_cell_below HS.out.below HX2.out))
  clear hx0 hx1 hx2 ha0
  go_loopg [5] (l1.length + 1) (fun kq v5 w' => ∃ (i : Nat), v5 = .int .i64 (i : Int) ∧ Aside0 (i ≤ l1.length ∧ kq + i = l1.length + 1 ∧ (List.range i).all (rowC l0_0 l1) = true) ∧ Aside0 (Sp w [Res.blk ga #[.slice A0_0 l0_0.length c0_0] 26] w'))
  case atStart => exact ⟨0, rfl, ⟨by omega, by omega, rfl⟩, HS⟩
  case round =>
   clear HS; (obtain ⟨i, rfl, HX, HS⟩ := hrel); (obtain ⟨k1, rfl⟩ : ∃ k1, gk = k1 + 1 := ⟨gk - 1, by have := HX.out; omega⟩); (by_cases ci : i < l1.length)
   ·(have ci0 : decide (i < l1.length) = true := decide_eq_true ci); (have q0 : (0 ≤ (i : Int)) = True := eq_true (by omega)); (have q1 : ((i : Int) < (l1.length : Int)) = True := eq_true (by omega)); (have q2 : (i < l1.length) = True := eq_true ci); (have q3 : ((i : Int) < (l0_0.length : Int)) = True := eq_true (by have := HLN.out; omega)); (have q4 : (i < l0_0.length) = True := eq_true (by have := HLN.out; omega)); (have HW := A0_ (wrap_succ i (by have := HZ.out.1; have := HLN.out; omega)))
    have hno := fun h => HAE.out.trans (range_no (rowC l0_0 l1) l1.length i ci h)
    (have hnx := range_next (rowC l0_0 l1) i HX.out.2.2)
    have HIN := A0_ (fun (k : Nat) (hk : k < i) => show inCb (oAt l1 k) (-12) 12 = true by
     (have h := List.all_eq_true.1 HX.out.2.2 k (List.mem_range.2 hk)); (unfold rowC at h); (rw [Bool.and_eq_true] at h); (exact h.1))
    (have hil : i < l0_0.length := by have := HLN.out; omega); (obtain ⟨adp, Ai, ci_, e, hy0, hy1, hy2⟩ := at_L3 HR0.out (i : Int) (by omega) (by omega)); subst e; (have hpl := HZ.out.2.1 _ (pAt_mem l0_0 i hil)); (have hpc := HZ.out.2.2 _ (pAt_mem l0_0 i hil)); (rw [show rd_L3 l0_0 (i : Int) = pAt l0_0 i from rfl] at hy0 hy1 hy2); (rw [Int.toNat_natCast] at hy0); (obtain ⟨ad2, e, hx0, hx1, hx2⟩ := at_T94 (Kd.C_below HR1.out HS.out.below) (i : Int) (by omega) (by omega)); (injection e with e); subst e; (rw [show rd_T94 l1 (i : Int) = oAt l1 i from rfl] at hx0 hx1 hx2); (rw [Int.toNat_natCast] at hx0 hx1 hx2); (unfold rowC at hno hnx)
    have HPR := A0_ (fun j (hj : ∀ c ∈ pAt l0_0 j, inCb c 0 7 = true) h1 h2 => pair_at l0_0 l1 i j hpc hj h1 h2)
    (have HCI := A0_ ci); (obtain ⟨p, hp⟩ : ∃ p, p = pAt l0_0 i := ⟨_, rfl⟩); (rw [← hp] at hy0 hy1 hy2 hpl hpc HPR); (obtain ⟨o, ho⟩ : ∃ o, o = oAt l1 i := ⟨_, rfl⟩); (rw [← ho] at hx0 hx1 hx2 hno hnx HPR); (have HP0 := A0_ hy0); (have HP1 := A0_ hy1); (have HP2 := A0_ hy2); (have HPL := A0_ hpl); clear ci hp ho hy0 hy1 hy2 hil hpl hpc; (have ha0 : wr.cell? ⟨ga, 0, none⟩ = some (.slice (some adp) l0_0.length c0_0) := (cl_ HS 0 0 rfl).trans rfl)
    have hin : ∀ x : Int, spec_l01In.f x (-12) 12 = some (inR x (-12) 12) := fun x => in_eq x (-12) 12
    cases b0 : inR o.f0 (-12) 12 with
    | false =>
     (have HB0 := A0_ ((hin o.f0).trans (congrArg some b0))); (have HF := A0_ (hno (by unfold inCb; rw [b0]; rfl))); clear b0 hin hno hnx
     go_wp2_with (first
      | (go_at_call 64; obtain ⟨gx, hg_⟩ : ∃ g_, g_ = (wr).heap.size := ⟨_, rfl⟩; obtain ⟨wx, hw_⟩ : ∃ w_, w_ = (wr).alloc (.cells #[.int .i64 o.f0, .int .i64 o.f1, .int .i64 o.f2] 94) := ⟨_, rfl⟩; (try rw [← hw_]); (try rw [← hg_]); have HS_ := A0_ (Sp.box HS.out #[.int .i64 o.f0, .int .i64 o.f1, .int .i64 o.f2] 94); rw [← hw_, ← hg_] at HS_; clear HS; have HS := HS_; clear HS_ hw_ hg_; refine (spec_l01In.calls o.f0 (-12) 12 false _ HB0.out).mono ?_; rintro e wc_ ⟨rfl, hb_⟩; replace HS := A0_ (Sp.far HS.out hb_.below); clear hb_ ha0 hx0 hx1 hx2 HB0))
     go_ret; (exact ⟨by rw [HF.out]; rfl, HS.out.below⟩)
    | true =>
    (have HB0 := A0_ ((hin o.f0).trans (congrArg some b0)))
    cases b1 : inR o.f1 (-12) 12 with
    | false =>
     (have HB1 := A0_ ((hin o.f1).trans (congrArg some b1))); (have HF := A0_ (hno (by unfold inCb; rw [b0, b1]; rfl))); clear b0 b1 hin hno hnx
     go_wp2_with (first
      | (go_at_call 64; obtain ⟨gx, hg_⟩ : ∃ g_, g_ = (wr).heap.size := ⟨_, rfl⟩; obtain ⟨wx, hw_⟩ : ∃ w_, w_ = (wr).alloc (.cells #[.int .i64 o.f0, .int .i64 o.f1, .int .i64 o.f2] 94) := ⟨_, rfl⟩; (try rw [← hw_]); (try rw [← hg_]); have HS_ := A0_ (Sp.box HS.out #[.int .i64 o.f0, .int .i64 o.f1, .int .i64 o.f2] 94); rw [← hw_, ← hg_] at HS_; clear HS; have HS := HS_; clear HS_ hw_ hg_; refine (spec_l01In.calls o.f0 (-12) 12 true _ HB0.out).mono ?_; rintro e wc_ ⟨rfl, hb_⟩; replace HS := A0_ (Sp.far HS.out hb_.below); clear hb_ ha0 hx0 hx1 hx2 HB0; have hc1 := (cl_ HS 0 1 rfl).trans rfl; have hc2 := (cl_ HS 0 2 rfl).trans rfl)
      | (go_at_call 64; refine (spec_l01In.calls o.f1 (-12) 12 false _ HB1.out).mono ?_; rintro e wc_ ⟨rfl, hb_⟩; replace HS := A0_ (Sp.far HS.out hb_.below); clear hb_ hc1 hc2 HB1))
     go_ret; (exact ⟨by rw [HF.out]; rfl, HS.out.below⟩)
    | true =>
    (have HB1 := A0_ ((hin o.f1).trans (congrArg some b1)))
    cases b2 : inR o.f2 (-12) 12 with
    | false =>
     (have HB2 := A0_ ((hin o.f2).trans (congrArg some b2))); (have HF := A0_ (hno (by unfold inCb; rw [b0, b1, b2]; rfl))); clear b0 b1 b2 hin hno hnx
     go_wp2_with (first
      | (go_at_call 64; obtain ⟨gx, hg_⟩ : ∃ g_, g_ = (wr).heap.size := ⟨_, rfl⟩; obtain ⟨wx, hw_⟩ : ∃ w_, w_ = (wr).alloc (.cells #[.int .i64 o.f0, .int .i64 o.f1, .int .i64 o.f2] 94) := ⟨_, rfl⟩; (try rw [← hw_]); (try rw [← hg_]); have HS_ := A0_ (Sp.box HS.out #[.int .i64 o.f0, .int .i64 o.f1, .int .i64 o.f2] 94); rw [← hw_, ← hg_] at HS_; clear HS; have HS := HS_; clear HS_ hw_ hg_; refine (spec_l01In.calls o.f0 (-12) 12 true _ HB0.out).mono ?_; rintro e wc_ ⟨rfl, hb_⟩; replace HS := A0_ (Sp.far HS.out hb_.below); clear hb_ ha0 hx0 hx1 hx2 HB0; have hc1 := (cl_ HS 0 1 rfl).trans rfl; have hc2 := (cl_ HS 0 2 rfl).trans rfl)
      | (go_at_call 64; refine (spec_l01In.calls o.f1 (-12) 12 true _ HB1.out).mono ?_; rintro e wc_ ⟨rfl, hb_⟩; replace HS := A0_ (Sp.far HS.out hb_.below); clear hb_ hc1 hc2 HB1; have hc2 := (cl_ HS 0 2 rfl).trans rfl)
      | (go_at_call 64; refine (spec_l01In.calls o.f2 (-12) 12 false _ HB2.out).mono ?_; rintro e wc_ ⟨rfl, hb_⟩; replace HS := A0_ (Sp.far HS.out hb_.below); clear hb_ hc2 HB2))
     go_ret; (exact ⟨by rw [HF.out]; rfl, HS.out.below⟩)
    | true =>
    (have HB2 := A0_ ((hin o.f2).trans (congrArg some b2))); (have hob : inCb o (-12) 12 = true := by unfold inCb; rw [b0, b1, b2]; rfl); (rw [hob, Bool.true_and] at hno hnx); (have HNO := A0_ hno); (have HNX := A0_ hnx); (have HOB := A0_ hob); clear b0 b1 b2 hin hno hnx hob
    go_wp2_with (first
     | (go_at_call 64; obtain ⟨gx, hg_⟩ : ∃ g_, g_ = (wr).heap.size := ⟨_, rfl⟩; obtain ⟨wx, hw_⟩ : ∃ w_, w_ = (wr).alloc (.cells #[.int .i64 o.f0, .int .i64 o.f1, .int .i64 o.f2] 94) := ⟨_, rfl⟩; (try rw [← hw_]); (try rw [← hg_]); have HS_ := A0_ (Sp.box HS.out #[.int .i64 o.f0, .int .i64 o.f1, .int .i64 o.f2] 94); rw [← hw_, ← hg_] at HS_; clear HS; have HS := HS_; clear HS_ hw_ hg_; refine (spec_l01In.calls o.f0 (-12) 12 true _ HB0.out).mono ?_; rintro e wc_ ⟨rfl, hb_⟩; replace HS := A0_ (Sp.far HS.out hb_.below); clear hb_ ha0 hx0 hx1 hx2 HB0; have hc1 := (cl_ HS 0 1 rfl).trans rfl; have hc2 := (cl_ HS 0 2 rfl).trans rfl)
     | (go_at_call 64; refine (spec_l01In.calls o.f1 (-12) 12 true _ HB1.out).mono ?_; rintro e wc_ ⟨rfl, hb_⟩; replace HS := A0_ (Sp.far HS.out hb_.below); clear hb_ hc1 hc2 HB1; have hc2 := (cl_ HS 0 2 rfl).trans rfl)
     | (go_at_call 64; refine (spec_l01In.calls o.f2 (-12) 12 true _ HB2.out).mono ?_; rintro e wc_ ⟨rfl, hb_⟩; replace HS := A0_ (Sp.far HS.out hb_.below); clear hb_ hc2 HB2))
    go_loopg [7] (i + 1) (fun kq v7 w' => ∃ (j : Nat), v7 = .int .i64 (j : Int) ∧ Aside0 (j ≤ i ∧ kq + j = i + 1 ∧ (List.range j).all (fun k => !pairT l0_0 l1 i k) = true) ∧ Aside0 (Sp w [Res.blk gx #[.int .i64 o.f0, .int .i64 o.f1, .int .i64 o.f2] 94, Res.blk ga #[.slice (some adp) l0_0.length c0_0] 26] w'))
    case atStart => exact ⟨0, rfl, ⟨by omega, by omega, rfl⟩, HS⟩
    case round =>
     clear HS; (obtain ⟨j, rfl, HY, HS⟩ := hrel); (obtain ⟨k2, rfl⟩ : ∃ k2, gk = k2 + 1 := ⟨gk - 1, by have := HY.out; omega⟩); (by_cases cj : j < i)
     ·(have cj0 : decide (j < i) = true := decide_eq_true cj); (have r0 : (0 ≤ (j : Int)) = True := eq_true (by omega)); (have r1 : ((j : Int) < (l0_0.length : Int)) = True := eq_true (by have := HCI.out; have := HLN.out; omega)); (have r2 : (j < l0_0.length) = True := eq_true (by have := HCI.out; have := HLN.out; omega)); (have r3 : ((j : Int) < (l1.length : Int)) = True := eq_true (by have := HCI.out; omega)); (have r4 : (j < l1.length) = True := eq_true (by have := HCI.out; omega)); (have HWJ := A0_ (wrap_succ j (by have := HZ.out.1; have := HCI.out; have := HLN.out; omega)))
      have HNJ := A0_ (range_next (fun k => !pairT l0_0 l1 i k) j HY.out.2.2)
      have HBJ := A0_ (fun h => HNO.out (range_no (fun k => !pairT l0_0 l1 i k) i j cj h))
      (have hjl : j < l0_0.length := by have := HCI.out; have := HLN.out; omega); (obtain ⟨ad3, Aj, cj_, e, hy0, hy1, hy2⟩ := at_L3 HR0.out (j : Int) (by omega) (by omega)); (injection e with e); subst e; (have hpl := HZ.out.2.1 _ (pAt_mem l0_0 j hjl)); (have hpr := HPR.out j (HZ.out.2.2 _ (pAt_mem l0_0 j hjl)) HOB.out (HIN.out j cj)); (rw [show rd_L3 l0_0 (j : Int) = pAt l0_0 j from rfl] at hy0 hy1 hy2); (rw [Int.toNat_natCast] at hy0); (obtain ⟨ad4, e, hx0, hx1, hx2⟩ := at_T94 HR1.out (j : Int) (by omega) (by have := HCI.out; omega)); (injection e with e); subst e; (rw [show rd_T94 l1 (j : Int) = oAt l1 j from rfl] at hx0 hx1 hx2); (rw [Int.toNat_natCast] at hx0 hx1 hx2); (have HCJ := A0_ cj); (try dsimp only at HNJ HBJ); (obtain ⟨pj, hpj⟩ : ∃ pj, pj = pAt l0_0 j := ⟨_, rfl⟩); (rw [← hpj] at hy0 hy1 hy2 hpl hpr); (obtain ⟨oj, hoj⟩ : ∃ oj, oj = oAt l1 j := ⟨_, rfl⟩); (rw [← hoj] at hx0 hx1 hx2 hpr); (obtain ⟨K1, m1, hm1, hl1, hK1⟩ := move_at p o HPL.out); (obtain ⟨K2, m2, hm2, hl2, hK2⟩ := move_at pj oj hpl); (obtain ⟨K3, hK3⟩ := (smeet_ev m1 m2 (by rw [hl1]; exact HPL.out) (by rw [hl2]; exact hpl)).rounds); (rw [← hm1, ← hm2] at hpr); (rw [hpr] at hK3); (obtain ⟨r3, hr3⟩ : ∃ r3, r3 = pairT l0_0 l1 i j := ⟨_, rfl⟩); (rw [← hr3] at hK3 HNJ HBJ); (have HK1 := A0_ hK1); (have HK2 := A0_ hK2); (have HK3 := A0_ hK3); (have HJ0 := A0_ hy0); (have HJ1 := A0_ hy1); (have HJ2 := A0_ hy2); (have HO0 := A0_ hx0); (have HO1 := A0_ hx1); (have HO2 := A0_ hx2); clear cj hpj hoj hx0 hx1 hx2 hy0 hy1 hy2 hK1 hK2 hK3 hm1 hm2 hl1 hl2 hpl hpr hr3 hjl; (replace HS := A0_ (show Sp w ([Res.blk gx #[.int .i64 o.f0, .int .i64 o.f1, .int .i64 o.f2] 94, Res.blk ga #[.slice (some adp) l0_0.length c0_0] 26] ++ ([] : List Res)) wr.drew from Sp.drew HS.out)); go_wp2
      refine start_ (n := 18) (S := fun w' => w'.cell? ⟨ga, 0, none⟩ = some (.slice (some adp) l0_0.length c0_0) ∧ w'.cell? ⟨gx, 0, none⟩ = some (.int .i64 o.f0) ∧ w'.cell? ⟨gx, 1, none⟩ = some (.int .i64 o.f1) ∧ w'.cell? ⟨gx, 2, none⟩ = some (.int .i64 o.f2) ∧ w'.cell? (adp.add i) = some (.slice Ai p.length ci_) ∧ w'.cell? (adp.add j) = some (.slice Aj pj.length cj_) ∧ w'.cell? (ado.add (j * 3)) = some (.int .i64 oj.f0) ∧ w'.cell? ⟨(ado.add (j * 3)).block, (ado.add (j * 3)).off + 1, none⟩ = some (.int .i64 oj.f1) ∧ w'.cell? ⟨(ado.add (j * 3)).block, (ado.add (j * 3)).off + 2, none⟩ = some (.int .i64 oj.f2)) (ds := []) #[ff,ff,ff,ff,ff,ff,ff,ff,ff,ff,ff,ff,ff,ff,ff,ff,ff,ff] (by kernel_rfl) rfl rfl (⟨(cl_ HS 1 0 rfl).trans rfl, (cl_ HS 0 0 rfl).trans rfl, (cl_ HS 0 1 rfl).trans rfl, (cl_ HS 0 2 rfl).trans rfl, pw_cell_below HS.out.below HP0.out, pw_cell_below HS.out.below HJ0.out, pw_cell_below HS.out.below HO0.out, pw_cell_below HS.out.below HO1.out, pw_cell_below HS.out.below HO2.out⟩) (fun hHeld => ?_)
      refine with_tabW sclF.tab12 sclF.bits12 (fun HT_ HW_ => ?_)
      (generalize wr.drew = wD at HS hHeld ⊢); (refine on_ 0 (some 52) ?_); (refine tk_ 1 (some 53) ?_); (refine on_ 2 (some 54) ?_); (refine on_ 3 (some 55) ?_); (refine tk_ 4 (some 56) ?_); (refine tk_ 5 (some 57) ?_); (refine on_ 7 (some 59) ?_); (refine tk_ 8 (some 60) ?_); (refine on_ 9 (some 61) ?_); (refine on_ 10 (some 62) ?_); (refine tk_ 11 (some 63) ?_); (refine on_ 12 (some 64) ?_); (refine on_ 13 (some 65) ?_); (refine on_ 14 (some 66) ?_); (refine tk_ 15 (some 67) ?_)
      refine o1_ 6 (some 58) (fun K hK => ?_)
      (refine gs_ Try.func93 #[.slice Ai p.length ci_, .agg #[.int .i64 o.f0, .int .i64 o.f1, .int .i64 o.f2]] ?_); (refine (spec_l09Move.calls K1 Ai ci_ p o.f0 o.f1 o.f2 m1 _ (Kd.C_below HP2.out HS.out.below) HP1.out HK1.out).mono ?_); (rintro e wA11 ⟨vA11, rfl, ho, hb⟩); (refine ⟨_, rfl, ?_⟩); (replace HS := A0_ (Sp.made' HS.out hb ho)); clear hb ho; (obtain ⟨AA11, cA11, rfl⟩ := Sp.slice HS.out (i := 0) rfl)
      refine hK.out _ _ (⟨(cl_ HS 2 0 rfl).trans rfl, (cl_ HS 1 0 rfl).trans rfl, (cl_ HS 1 1 rfl).trans rfl, (cl_ HS 1 2 rfl).trans rfl, pw_cell_below HS.out.below HP0.out, pw_cell_below HS.out.below HJ0.out, pw_cell_below HS.out.below HO0.out, pw_cell_below HS.out.below HO1.out, pw_cell_below HS.out.below HO2.out⟩) (fun hHeld => ?_)
      clear hK K; (refine nm_ (some 58) ?_)
      refine o1_ 16 (some 68) (fun K hK => ?_)
      (refine gs_ Try.func93 #[.slice Aj pj.length cj_, .agg #[.int .i64 oj.f0, .int .i64 oj.f1, .int .i64 oj.f2]] ?_); (refine (spec_l09Move.calls K2 Aj cj_ pj oj.f0 oj.f1 oj.f2 m2 _ (Kd.C_below HJ2.out HS.out.below) HJ1.out HK2.out).mono ?_); (rintro e wA12 ⟨vA12, rfl, ho, hb⟩); (refine ⟨_, rfl, ?_⟩); (replace HS := A0_ (Sp.made' HS.out hb ho)); clear hb ho; (obtain ⟨AA12, cA12, rfl⟩ := Sp.slice HS.out (i := 0) rfl)
      refine hK.out _ _ (⟨(cl_ HS 3 0 rfl).trans rfl, (cl_ HS 2 0 rfl).trans rfl, (cl_ HS 2 1 rfl).trans rfl, (cl_ HS 2 2 rfl).trans rfl, pw_cell_below HS.out.below HP0.out, pw_cell_below HS.out.below HJ0.out, pw_cell_below HS.out.below HO0.out, pw_cell_below HS.out.below HO1.out, pw_cell_below HS.out.below HO2.out⟩) (fun hHeld => ?_)
      clear hK K; (refine nm_ (some 68) ?_)
      refine o1_ 17 (some 69) (fun K hK => ?_)
      (refine gs_ Try.func86 #[.slice AA11 (m1).length cA11, .slice AA12 (m2).length cA12] ?_); (refine (spec_l27Meet.calls K3 AA11 cA11 m1 AA12 cA12 m2 r3 _ (Sp.reads HS.out (i := 1) rfl).2.2 (Sp.reads HS.out (i := 1) rfl).2.1 (Sp.reads HS.out (i := 0) rfl).2.2 (Sp.reads HS.out (i := 0) rfl).2.1 HK3.out).mono ?_); (rintro e wA13 ⟨rfl, hb⟩); (refine ⟨_, rfl, ?_⟩); (replace HS := A0_ (Sp.far HS.out hb)); clear hb
      refine hK.out _ _ (⟨(cl_ HS 3 0 rfl).trans rfl, (cl_ HS 2 0 rfl).trans rfl, (cl_ HS 2 1 rfl).trans rfl, (cl_ HS 2 2 rfl).trans rfl, pw_cell_below HS.out.below HP0.out, pw_cell_below HS.out.below HJ0.out, pw_cell_below HS.out.below HO0.out, pw_cell_below HS.out.below HO1.out, pw_cell_below HS.out.below HO2.out⟩) (fun hHeld => ?_)
      clear hK K; (refine nm_ (some 69) ?_); (refine dn_ ?_); (replace HS := A0_ (Sp.arr (pre := [Res.row k94 94 w.heap.size (.slice AA12 (m2).length cA12) (m2), Res.row k94 94 w.heap.size (.slice AA11 (m1).length cA11) (m1), Res.blk gx #[.int .i64 o.f0, .int .i64 o.f1, .int .i64 o.f2] 94, Res.blk ga #[.slice (some adp) l0_0.length c0_0] 26]) (pre' := [Res.blk gx #[.int .i64 o.f0, .int .i64 o.f1, .int .i64 o.f2] 94, Res.blk ga #[.slice (some adp) l0_0.length c0_0] 26, Res.row k94 94 w.heap.size (.slice AA11 (m1).length cA11) (m1), Res.row k94 94 w.heap.size (.slice AA12 (m2).length cA12) (m2)]) (rest := ([] : List Res)) [2, 3, 1, 0] HS.out rfl rfl))
      cases r3 with
      | true =>
       (have HF := A0_ (HBJ.out rfl)); clear HNJ HBJ; go_wp2; go_ret; (exact ⟨by rw [HF.out]; rfl, HS.out.below⟩)
      | false =>
       (have HN := A0_ (HNJ.out rfl)); clear HNJ HBJ; go_wp2; (replace HS := A0_ (Sp.out (Sp.out HS.out 3) 2)); (go_roundg k2)
       case measure => omega
       case rel =>
        (rw [HWJ.out]); (exact ⟨j + 1, rfl, ⟨by have := HCJ.out; omega, by have := HY.out; omega, HN.out⟩, HS⟩)
     ·(have cj0 : decide (j < i) = false := decide_eq_false cj); (have cj1 : (j < i) = False := eq_false cj); (have hj : j = i := by have := HY.out; omega); (have HN := A0_ (HNX.out (hj ▸ HY.out.2.2))); (have HS_ := A0_ (Sp.tail HS.out)); clear HS cj hj; (have HS := HS_); clear HS_; go_wp2; (go_roundg k1)
      case measure => omega
      case rel =>
       (rw [HW.out]); (exact ⟨i + 1, rfl, ⟨by have := HCI.out; omega, by have := HX.out; omega, HN.out⟩, HS⟩)
   ·(have ci0 : decide (i < l1.length) = false := decide_eq_false ci); (have ci1 : (i < l1.length) = False := eq_false ci); (have hi : i = l1.length := by have := HX.out; omega); (have HF := A0_ (HAE.out.trans (hi ▸ HX.out.2.2))); clear ci hi; go_wp2; go_ret; (exact ⟨by rw [HF.out]; rfl, HS.out.below⟩)
section
attribute [local go_sem] max2_int min2_int max_two min_two max_three min_three max_four min_four
def spec_l27After.l0 : Nat → List (S94) → Int → List (S94) → Int → Option ((List (S94)))
  | 0, _, _, _, _ => none
  | k + 1, x0, x1, x5, x6 => if x6 < (x0.length : Int) then (if 0 ≤ (IntKind.u64.wrap (x6)) then (if (Go.bits .and .i64 (shr .i64 (wrap64 (Int.tdiv x1 6)) (IntKind.u64.wrap (x6))) 1) = 1 then (if 0 ≤ x6 then ((spec_l27Vector.f (Int.tmod x1 6)).bind fun bt439 => ((spec_l09Add.f ((rd_T94 x0 x6).f0) ((rd_T94 x0 x6).f1) ((rd_T94 x0 x6).f2) bt439.1 bt439.2.1 bt439.2.2).bind fun bt442 => (if x5.length < 5864062014805 then (spec_l27After.l0 k x0 x1 (x5 ++ [(⟨bt442.1, bt442.2.1, bt442.2.2⟩ : S94)]) (wrap64 (x6 + 1))) else (none)))) else (none)) else (if 0 ≤ x6 then (if x5.length < 5864062014805 then (spec_l27After.l0 k x0 x1 (x5 ++ [(⟨(rd_T94 x0 x6).f0, (rd_T94 x0 x6).f1, (rd_T94 x0 x6).f2⟩ : S94)]) (wrap64 (x6 + 1))) else (none)) else (none))) else (none)) else (some x5)
def spec_l27After.f (k : Nat) (l0 : List (S94)) (a1 : Int) : Option ((List (S94))) := spec_l27After.l0 k l0 a1 (([] : List (S94))) 0
def spec_l27After.T6 : Bool × List (List Nat × List Nat) := (true, [([], []), ([], []), ([], []), ([1, 2], [1, 2]), ([3], [3]), ([], []), ([5], [5]), ([6], [6]), ([4, 7, 7], [4, 7]), ([8], [8]), ([0, 9, 8], [0, 9]), ([10, 10, 0, 1, 2, 3, 4, 5, 6, 7, 8, 9, 10], [0, 10])])
def spec_l27After.B6 : List Nat := [0, 0, 0, 6, 14, 0, 32, 96, 254, 510, 1023, 2047]
theorem spec_l27After.tab6 : rtab .any (opsOf Try.f59 6) = spec_l27After.T6 := by kernel_rfl
theorem spec_l27After.bits6 : waitsOk spec_l27After.T6.2 spec_l27After.B6 = true := by kernel_rfl
set_option maxHeartbeats 8000000 in
set_option maxRecDepth 100000 in
theorem spec_l27After.calls (k : Nat) (A0 : Option Addr) (c0 : Nat) (l0 : List (S94)) (a1 : Int) (r : List (S94)) (w : World) (hr0 : Kd.C k94 w A0 l0.length l0) (hc0 : l0.length ≤ c0) (h : spec_l27After.f k l0 a1 = some r) :
    Calls Try.prog 59 #[.slice A0 l0.length c0, .int .i64 a1] w fun e w' => ∃ v0_ : Value, e = .returned (v0_) ∧ Kd.R k94 94 w' w.heap.size (fun _ => True) v0_ r ∧ Below w.heap.size w w' := by
 (have hu94 := Try.underlying94); (have HR0 := A0_ hr0); (have HC0 := A0_ hc0); clear hr0 hc0; (have HB := A0_ (Below.refl w.heap.size w)); (have H : (spec_l27After.l0 k l0 a1 (([] : List (S94))) 0) = some r := h); clear h; (obtain ⟨y435, hy435⟩ : ∃ y_ : List (S94), y_ = (([] : List (S94))) := ⟨_, rfl⟩); (replace H : (spec_l27After.l0 k l0 a1 y435 0) = some r := by first | (rw [hy435]; with_reducible exact H) | (have H2_ := (Option.bind_some _ _).symm.trans H; rw [hy435]; with_reducible exact H2_) | (have H2_ := (Option.bind_some _ _).symm.trans H; with_reducible exact H2_) | with_reducible exact H | (rw [hy435]; exact H) | exact H); (have Ny435 := A0_ hy435); clear hy435; (have H' := A0_ H); clear H; (go_enter Try.func59, Try.ntmps59)
 go_wp2_with (first | ((with_reducible refine gate_dst (N := 7) rfl ?_); refine Kd.R_lit k94 _ 94 ?hg (N := 7) ?hd (xs := ([] : List (S94))) (inner := []) (ok := fun _ => True) (okp := fun _ => True) ?hr ?hp (fun _ hk => hk) trivial (Below.refl _ _) (Nat.le_refl _) (by simp) ?_; (case hd => rfl); (case hg => rfl); (case hr => first | (go_simp; done) | (go_simp; rfl)); (case hp => exact (Reps.none _ _)); intro v436 w3 ho4 hb hg_ hnew_; clear hg_ hnew_; (first | rw [← Ny435.out] at ho4 | (simp only [Int.reduceToNat] at ho4; rw [← Ny435.out] at ho4)); have n0_ := A0_ (Kd.R_lower ho4 (below_size bw_)); have n1_ := A0_ (below_step bw_ hb); clear HB; have HO437 := n0_; have HB := n1_; clear n0_ n1_; clear hb ho4))
 go_loopg [5, 6] k (fun kq v5 v6 w' => ∃ (x5_1 : List (S94)) (x6_1 : Int), v6 = .int .i64 x6_1 ∧ Aside0 (spec_l27After.l0 kq l0 a1 x5_1 x6_1 = some r) ∧ Aside0 (kq ≤ k) ∧ Aside0 (Kd.R k94 94 w' w.heap.size (fun _ => True) v5 x5_1) ∧ Aside0 (Below w.heap.size w w'))
 case atStart => exact ⟨(y435), (0), (by first | rfl | (simp; done) | (simp [*]; done)), H', ⟨Nat.le_refl _⟩, ⟨by (with_reducible repeat (first | apply Ra_ | apply Rn_ | apply Rd_)); exact HO437.out⟩, ⟨by repeat (first | (with_reducible first | exact HB.out | apply ba_ | apply bn_ | apply bd_) | exact HB.out)⟩⟩
 case round =>
  clear H'; (try clear p2); (obtain ⟨x5_1, x6_1, rfl, HA, HK1, HO_5, HB⟩ := hrel)
  cases gk with
  | zero => exact absurd HA.out (by simp [spec_l27After.l0])
  | succ k1 =>
   (have H := HA.out); clear HA; (simp only [spec_l27After.l0] at H); (by_cases c5 : x6_1 < (l0.length : Int))
   ·(rw [if_pos c5] at H); (have c5b0 : decide (x6_1 < (l0.length : Int)) = true := decide_eq_true c5); clear c5; (obtain ⟨ji6, hji6⟩ : ∃ j_ : Int, (IntKind.u64.wrap (x6_1)) = j_ := ⟨_, rfl⟩)
    replace H : (if 0 ≤ (ji6) then (if (Go.bits .and .i64 (shr .i64 (wrap64 (Int.tdiv a1 6)) (ji6)) 1) = 1 then (if 0 ≤ x6_1 then ((spec_l27Vector.f (Int.tmod a1 6)).bind fun bt439 => ((spec_l09Add.f ((rd_T94 l0 x6_1).f0) ((rd_T94 l0 x6_1).f1) ((rd_T94 l0 x6_1).f2) bt439.1 bt439.2.1 bt439.2.2).bind fun bt442 => (if x5_1.length < 5864062014805 then (spec_l27After.l0 k1 l0 a1 (x5_1 ++ [(⟨bt442.1, bt442.2.1, bt442.2.2⟩ : S94)]) (wrap64 (x6_1 + 1))) else (none)))) else (none)) else (if 0 ≤ x6_1 then (if x5_1.length < 5864062014805 then (spec_l27After.l0 k1 l0 a1 (x5_1 ++ [(⟨(rd_T94 l0 x6_1).f0, (rd_T94 l0 x6_1).f1, (rd_T94 l0 x6_1).f2⟩ : S94)]) (wrap64 (x6_1 + 1))) else (none)) else (none))) else (none)) = some r := by first | (rw [hji6] at H; exact H) | (simp only [hji6] at H ⊢; exact H)
    (by_cases c7 : 0 ≤ (ji6))
    ·(rw [if_pos c7] at H); (have c7b0 := eq_true c7); (have c7b1 : decide (0 ≤ (ji6)) = true := decide_eq_true c7); clear c7; (obtain ⟨ji8, hji8⟩ : ∃ j_ : Int, (shr .i64 (wrap64 (Int.tdiv a1 6)) (ji6)) = j_ := ⟨_, rfl⟩)
     replace H : (if (Go.bits .and .i64 (ji8) 1) = 1 then (if 0 ≤ x6_1 then ((spec_l27Vector.f (Int.tmod a1 6)).bind fun bt439 => ((spec_l09Add.f ((rd_T94 l0 x6_1).f0) ((rd_T94 l0 x6_1).f1) ((rd_T94 l0 x6_1).f2) bt439.1 bt439.2.1 bt439.2.2).bind fun bt442 => (if x5_1.length < 5864062014805 then (spec_l27After.l0 k1 l0 a1 (x5_1 ++ [(⟨bt442.1, bt442.2.1, bt442.2.2⟩ : S94)]) (wrap64 (x6_1 + 1))) else (none)))) else (none)) else (if 0 ≤ x6_1 then (if x5_1.length < 5864062014805 then (spec_l27After.l0 k1 l0 a1 (x5_1 ++ [(⟨(rd_T94 l0 x6_1).f0, (rd_T94 l0 x6_1).f1, (rd_T94 l0 x6_1).f2⟩ : S94)]) (wrap64 (x6_1 + 1))) else (none)) else (none))) = some r := by first | (rw [hji8] at H; exact H) | (simp only [hji8] at H ⊢; exact H)
     (have hji8_ : ((wrap64 (Int.tdiv a1 6)) / 2 ^ min (ji6).toNat 64) = ji8 := hji8); (have hji8z : (ji6) ≤ 64 → ((wrap64 (Int.tdiv a1 6)) / 2 ^ (ji6).toNat) = ji8 := shr_small hji8); (by_cases c9 : (Go.bits .and .i64 (ji8) 1) = 1)
     ·(rw [if_pos c9] at H); (have c9b0 : ((Go.bits .and .i64 (ji8) 1) == 1) = true := beq_iff_eq.mpr c9); (have c9b1 : ((Go.bits .and .i64 (ji8) 1) != 1) = false := bne_eq_false_iff_eq.mpr c9); clear c9; (by_cases c10 : 0 ≤ x6_1)
      ·(rw [if_pos c10] at H); (have c10b0 : decide (0 ≤ x6_1) = true := decide_eq_true c10); clear c10; (replace H := Option.bind_eq_some_iff.mp H); (obtain ⟨⟨t439, t440, t441⟩, A110, H⟩ := H); (try dsimp only at H); (have A11 := A0_ A110); clear A110; (replace H := Option.bind_eq_some_iff.mp H); (obtain ⟨⟨t442, t443, t444⟩, A120, H⟩ := H); (try dsimp only at H); (have A12 := A0_ A120); clear A120; (by_cases c13 : x5_1.length < 5864062014805)
       ·(rw [if_pos c13] at H); (have LMc13 := A0_ c13); clear c13; (obtain ⟨y445, hy445⟩ : ∃ y_ : List (S94), y_ = (x5_1 ++ [(⟨t442, t443, t444⟩ : S94)]) := ⟨_, rfl⟩); (replace H : (spec_l27After.l0 k1 l0 a1 y445 (wrap64 (x6_1 + 1))) = some r := by first | (rw [hy445]; with_reducible exact H) | (have H2_ := (Option.bind_some _ _).symm.trans H; rw [hy445]; with_reducible exact H2_) | (have H2_ := (Option.bind_some _ _).symm.trans H; with_reducible exact H2_) | with_reducible exact H | (rw [hy445]; exact H) | exact H); (have Ny445 := A0_ hy445); clear hy445; (have H' := A0_ H); clear H; (try go_wp2); (have n0_ := A0_ (Kd.R_drew HO_5.out)); (have n1_ := A0_ (below_drew1 HB.out)); clear HO_5; clear HB; (have HO_5 := n0_); (have HB := n1_); clear n0_ n1_; (have p438 : 0 ≤ (x6_1 : Int) := of_decide_eq_true as_); (have q438 : x6_1 < (l0.length : Int) := of_decide_eq_true as_); (obtain ⟨ad438, e438, hx438_0, hx438_1, hx438_2⟩ := at_T94 HR0.out x6_1 p438 q438); (have hw438_2 := hx438_2); (have hw438_1 := hx438_1); (have hw438_0 := hx438_0); (cases e438); (replace hx438_0 := (HB.out.cell (World.block_lt_of_cell? w _ hx438_0)).trans hx438_0); (replace hx438_1 := (HB.out.cell (World.block_lt_of_cell? w _ hx438_1)).trans hx438_1); (replace hx438_2 := (HB.out.cell (World.block_lt_of_cell? w _ hx438_2)).trans hx438_2); (replace p438 := eq_true p438); (replace q438 := eq_true q438)
        refine start_ (n := 12) (S := fun w' => w'.cell? (ad438.add ((x6_1).toNat * 3)) = some (.int .i64 ((rd_T94 l0 x6_1).f0)) ∧ w'.cell? ⟨(ad438.add ((x6_1).toNat * 3)).block, (ad438.add ((x6_1).toNat * 3)).off + 1, none⟩ = some (.int .i64 ((rd_T94 l0 x6_1).f1)) ∧ w'.cell? ⟨(ad438.add ((x6_1).toNat * 3)).block, (ad438.add ((x6_1).toNat * 3)).off + 2, none⟩ = some (.int .i64 ((rd_T94 l0 x6_1).f2))) (ds := []) #[ff,ff,ff,ff,ff,ff,ff,ff,ff,ff,ff,ff] (by kernel_rfl) rfl rfl ⟨((HB.out.cell (World.block_lt_of_cell? w _ hw438_0)).trans hw438_0), ((HB.out.cell (World.block_lt_of_cell? w _ hw438_1)).trans hw438_1), ((HB.out.cell (World.block_lt_of_cell? w _ hw438_2)).trans hw438_2)⟩ (fun hHeld => ?_); refine with_tabW spec_l27After.tab6 spec_l27After.bits6 (fun HT_ HW_ => ?_)
        (generalize wr.drew = w14 at HO_5 HB hx438_0 hx438_1 hx438_2 hHeld ⊢); (refine on_ 0 (some 21) ?_); (refine on_ 1 (some 22) ?_); (refine on_ 2 (some 23) ?_); (refine on_ 3 (some 24) ?_); (refine on_ 5 (some 26) ?_); (refine on_ 6 (some 27) ?_); (refine tk_ 4 (some 25) ?_)
        refine o1_ 7 (some 28) (fun K hK => ?_)
        (refine gs_ Try.func90 #[.int .i64 (Int.tmod a1 6)] ?_); (with_reducible refine (spec_l27Vector.calls (Int.tmod a1 6) t439 t440 t441 _ A11.out).mono ?_); (rintro e w15 ⟨rfl, hb⟩); (refine ⟨_, rfl, ?_⟩); (have n0_ := A0_ (Kd.R_below (by (with_reducible repeat (first | apply Ra_ | apply Rn_ | apply Rd_)); exact HO_5.out) hb)); (have n1_ := A0_ (below_step bw_ hb)); clear HO_5; clear HB; (have HO_5 := n0_); (have HB := n1_); clear n0_ n1_; ((try clear hb)); ((try clear hb2)); ((try clear hk)); ((try clear hi))
        refine hK.out _ _ ⟨((HB.out.cell (World.block_lt_of_cell? w _ hw438_0)).trans hw438_0), ((HB.out.cell (World.block_lt_of_cell? w _ hw438_1)).trans hw438_1), ((HB.out.cell (World.block_lt_of_cell? w _ hw438_2)).trans hw438_2)⟩ (fun hHeld => ?_)
        clear hK K; (refine nm_ (some 28) ?_)
        refine o1_ 8 (some 29) (fun K hK => ?_)
        (refine gs_ Try.func89 #[.agg #[.int .i64 ((rd_T94 l0 x6_1).f0), .int .i64 ((rd_T94 l0 x6_1).f1), .int .i64 ((rd_T94 l0 x6_1).f2)], .agg #[.int .i64 t439, .int .i64 t440, .int .i64 t441]] ?_); (with_reducible refine (spec_l09Add.calls ((rd_T94 l0 x6_1).f0) ((rd_T94 l0 x6_1).f1) ((rd_T94 l0 x6_1).f2) t439 t440 t441 t442 t443 t444 _ A12.out).mono ?_); (rintro e w16 ⟨rfl, hb⟩); (refine ⟨_, rfl, ?_⟩); (have n0_ := A0_ (Kd.R_below (by (with_reducible repeat (first | apply Ra_ | apply Rn_ | apply Rd_)); exact HO_5.out) hb)); (have n1_ := A0_ (below_step bw_ hb)); clear HO_5; clear HB; (have HO_5 := n0_); (have HB := n1_); clear n0_ n1_; ((try clear hb)); ((try clear hb2)); ((try clear hk)); ((try clear hi))
        refine hK.out _ _ ⟨((HB.out.cell (World.block_lt_of_cell? w _ hw438_0)).trans hw438_0), ((HB.out.cell (World.block_lt_of_cell? w _ hw438_1)).trans hw438_1), ((HB.out.cell (World.block_lt_of_cell? w _ hw438_2)).trans hw438_2)⟩ (fun hHeld => ?_)
        clear hK K; (refine nm_ (some 29) ?_)
        refine o1_ 9 (some 30) (fun K hK => ?_)
        (refine value_ (w1 := ?_) (v := ?_) (by rfl) rfl ?_ ?_); (rotate_left 2)
        ·go_simp; (constructor)
         ·rfl
         ·rfl
        refine hK.out _ _ ⟨(World.cell?_alloc_lt _ _ _ (World.block_lt_of_cell? _ _ (((HB.out.cell (World.block_lt_of_cell? w _ hw438_0)).trans hw438_0)))).trans (((HB.out.cell (World.block_lt_of_cell? w _ hw438_0)).trans hw438_0)), (World.cell?_alloc_lt _ _ _ (World.block_lt_of_cell? _ _ (((HB.out.cell (World.block_lt_of_cell? w _ hw438_1)).trans hw438_1)))).trans (((HB.out.cell (World.block_lt_of_cell? w _ hw438_1)).trans hw438_1)), (World.cell?_alloc_lt _ _ _ (World.block_lt_of_cell? _ _ (((HB.out.cell (World.block_lt_of_cell? w _ hw438_2)).trans hw438_2)))).trans (((HB.out.cell (World.block_lt_of_cell? w _ hw438_2)).trans hw438_2))⟩ (fun hHeld => ?_)
        clear hK K; (refine nm_ (some 30) ?_)
        refine o1_ 10 (some 31) (fun K hK => ?_)
        refine Kd.R_append_step k94 (w0 := w) w.heap.size (by rfl) (.tmp 21) (.tmp 30) 35 94 (.agg #[(.int .i64 0), (.int .i64 0), (.int .i64 0)]) 24 rfl Try.underlying35 info94 rfl (by decide) (by omega) u5 x5_1 (⟨t442, t443, t444⟩ : S94) [.int .i64 t442, .int .i64 t443, .int .i64 t444] (fun _ => True) (fun _ => False) rfl rfl ?aP (fun _ hk => hk.elim) ?aF ?aO ?aB ?aS ?aL ?_
        ((case aP => exact k94_mkM _ _ _ (⟨t442, t443, t444⟩ : S94))); ((case aB => exact bw_))
        (case aF => exact (fun _ _ => trivial))
        ((case aO => exact (by (with_reducible repeat (first | apply Ra_ | apply Rn_ | apply Rd_)); exact HO_5.out))); ((case aS => exact (below_size bw_))); ((case aL => have := LMc13.out; omega)); intro v446 w17 ho hb hg hat; (rw [← Ny445.out] at ho); (have n0_ := A0_ (hb)); (have n1_ := A0_ (ho)); clear HB; clear HO_5; (have HB := n0_); (have HO447 := n1_); clear n0_ n1_; clear ho hb hg hat
        refine hK.out _ _ ⟨((HB.out.cell (World.block_lt_of_cell? w _ hw438_0)).trans hw438_0), ((HB.out.cell (World.block_lt_of_cell? w _ hw438_1)).trans hw438_1), ((HB.out.cell (World.block_lt_of_cell? w _ hw438_2)).trans hw438_2)⟩ (fun hHeld => ?_)
        clear hK K; (refine nm_ (some 31) ?_); (refine on_ 11 (some 5) ?_); (refine dn_ ?_); (try go_wp2); (go_roundg k1)
        case measure => have := HK1.out; omega
        case rel => exact ⟨(y445), (wrap64 (x6_1 + 1)), (by first | rfl | (simp; done) | (simp [*]; done)), H', ⟨by have := HK1.out; omega⟩, ⟨by (with_reducible repeat (first | apply Ra_ | apply Rn_ | apply Rd_)); exact HO447.out⟩, ⟨by repeat (first | (with_reducible first | exact HB.out | apply ba_ | apply bn_ | apply bd_) | exact HB.out)⟩⟩
       ·(rw [if_neg c13] at H); (exact absurd H (by simp))
      ·(rw [if_neg c10] at H); (exact absurd H (by simp))
     ·(rw [if_neg c9] at H); (have c9b0 : ((Go.bits .and .i64 (ji8) 1) == 1) = false := beq_eq_false_iff_ne.mpr c9); (have c9b1 : ((Go.bits .and .i64 (ji8) 1) != 1) = true := bne_iff_ne.mpr c9); (by_cases c18 : 0 ≤ x6_1)
      ·(rw [if_pos c18] at H); (have c18b0 : decide (0 ≤ x6_1) = true := decide_eq_true c18); clear c18; (by_cases c19 : x5_1.length < 5864062014805)
       ·(rw [if_pos c19] at H); (have LMc19 := A0_ c19); clear c19; (obtain ⟨y449, hy449⟩ : ∃ y_ : List (S94), y_ = (x5_1 ++ [(⟨(rd_T94 l0 x6_1).f0, (rd_T94 l0 x6_1).f1, (rd_T94 l0 x6_1).f2⟩ : S94)]) := ⟨_, rfl⟩); (replace H : (spec_l27After.l0 k1 l0 a1 y449 (wrap64 (x6_1 + 1))) = some r := by first | (rw [hy449]; with_reducible exact H) | (have H2_ := (Option.bind_some _ _).symm.trans H; rw [hy449]; with_reducible exact H2_) | (have H2_ := (Option.bind_some _ _).symm.trans H; with_reducible exact H2_) | with_reducible exact H | (rw [hy449]; exact H) | exact H); (have Ny449 := A0_ hy449); clear hy449; (have H' := A0_ H); clear H; (have p448 : 0 ≤ (x6_1 : Int) := of_decide_eq_true as_); (have q448 : x6_1 < (l0.length : Int) := of_decide_eq_true as_); (obtain ⟨ad448, e448, hx448_0, hx448_1, hx448_2⟩ := at_T94 HR0.out x6_1 p448 q448); (cases e448); (replace hx448_0 := (HB.out.cell (World.block_lt_of_cell? w _ hx448_0)).trans hx448_0); (replace hx448_1 := (HB.out.cell (World.block_lt_of_cell? w _ hx448_1)).trans hx448_1); (replace hx448_2 := (HB.out.cell (World.block_lt_of_cell? w _ hx448_2)).trans hx448_2); (replace p448 := eq_true p448); (replace q448 := eq_true q448)
        go_wp2_with (first | ((with_reducible refine gate_builtin (b := .append) (xs := #[.tmp 32, .tmp 37]) rfl ?_); at_builtin; refine Kd.R_append k94 (w0 := w) w.heap.size rfl (.tmp 32) (.tmp 37) 35 94 (.agg #[(.int .i64 0), (.int .i64 0), (.int .i64 0)]) 24 rfl Try.underlying35 info94 rfl (by decide) (by omega) u5 x5_1 (⟨(rd_T94 l0 x6_1).f0, (rd_T94 l0 x6_1).f1, (rd_T94 l0 x6_1).f2⟩ : S94) [.int .i64 ((rd_T94 l0 x6_1).f0), .int .i64 ((rd_T94 l0 x6_1).f1), .int .i64 ((rd_T94 l0 x6_1).f2)] (fun _ => True) (fun _ => False) rfl rfl ?aP (fun _ hk => hk.elim) ?aF ?aO ?aB ?aS ?aL ?_; (case aP => exact k94_mkM _ _ _ (⟨(rd_T94 l0 x6_1).f0, (rd_T94 l0 x6_1).f1, (rd_T94 l0 x6_1).f2⟩ : S94)); (case aB => exact bw_); (case aF => exact (fun _ _ => trivial)); (case aO => exact (by (with_reducible repeat (first | apply Ra_ | apply Rn_ | apply Rd_)); exact HO_5.out)); (case aS => exact (below_size bw_)); (case aL => have := LMc19.out; omega); intro v450 w20 ho hb hg hat; rw [← Ny449.out] at ho; have n0_ := A0_ (hb); have n1_ := A0_ (ho); clear HB; clear HO_5; have HB := n0_; have HO451 := n1_; clear n0_ n1_; clear ho hb hg hat))
        (go_roundg k1)
        case measure => have := HK1.out; omega
        case rel => exact ⟨(y449), (wrap64 (x6_1 + 1)), (by first | rfl | (simp; done) | (simp [*]; done)), H', ⟨by have := HK1.out; omega⟩, ⟨by (with_reducible repeat (first | apply Ra_ | apply Rn_ | apply Rd_)); exact HO451.out⟩, ⟨by repeat (first | (with_reducible first | exact HB.out | apply ba_ | apply bn_ | apply bd_) | exact HB.out)⟩⟩
       ·(rw [if_neg c19] at H); (exact absurd H (by simp))
      ·(rw [if_neg c18] at H); (exact absurd H (by simp))
    ·(rw [if_neg c7] at H); (exact absurd H (by simp))
   ·(rw [if_neg c5] at H); (have c5b0 : decide (x6_1 < (l0.length : Int)) = false := decide_eq_false c5); clear c5; (obtain rfl := Option.some.inj H); go_wp2; go_ret; (exact ⟨_, by first | rfl | (simp [errW_none, errW_some] <;> rfl) | (simp [*, errW_none, errW_some] <;> rfl), by (with_reducible repeat (first | apply Ra_ | apply Rn_ | apply Rd_)); exact HO_5.out, bx_⟩)
end
section
attribute [local go_sem] max2_int min2_int max_two min_two max_three min_three max_four min_four
def spec_l27Possible.j0 : Nat → List (S94) → Int → Bool → List (List (S94)) → Option (Bool)
  | 0, _, _, _, _ => none
  | k + 1, x1, x2, x23, x411000 => if x23 = true then (some false) else ((spec_l27After.f k x1 x2).bind fun t412 => ((spec_l27Clear.f k x411000 t412).bind fun t415 => (some t415)))
def spec_l27Possible.f (k : Nat) (l0_0 : List (List (S94))) (l1 : List (S94)) (a2 : Int) : Option (Bool) := if 0 ≤ (IntKind.u64.wrap ((l0_0.length : Int))) then ((spec_l01In.f a2 6 (wrap64 ((shl .i64 6 (IntKind.u64.wrap ((l0_0.length : Int)))) - 1))).bind fun t411 => (if t411 = true then (spec_l27Possible.j0 k l1 a2 ((Int.tmod (wrap64 (Int.tdiv a2 6)) 2) == 1) l0_0) else (spec_l27Possible.j0 k l1 a2 true l0_0))) else (none)
def possF.T4 : Bool × List (List Nat × List Nat) := (true, [([], []), ([], []), ([], []), ([1, 2], [1, 2]), ([0, 3, 3], [0, 3]), ([4, 4, 0, 1, 2, 3, 4], [4])])
def possF.B4 : List Nat := [0, 0, 0, 6, 15, 31]
theorem possF.tab4 : rtab .any (opsOf Try.f58 4) = possF.T4 := by kernel_rfl
theorem possF.bits4 : waitsOk possF.T4.2 possF.B4 = true := by kernel_rfl
set_option maxHeartbeats 8000000 in
set_option maxRecDepth 100000 in
theorem spec_l27Possible.calls (k : Nat) (A0_0 : Option Addr) (c0_0 : Nat) (l0_0 : List (List (S94))) (A1 : Option Addr) (c1 : Nat) (l1 : List (S94)) (a2 : Int) (r : Bool) (w : World) (hr0_0 : Kd.C (Kd.slice 69 k94) w A0_0 l0_0.length l0_0) (hc0_0 : l0_0.length ≤ c0_0) (hr1 : Kd.C k94 w A1 l1.length l1) (hc1 : l1.length ≤ c1) (h : spec_l27Possible.f k l0_0 l1 a2 = some r) :
    Calls Try.prog 58 #[.agg #[.slice A0_0 l0_0.length c0_0], .slice A1 l1.length c1, .int .i64 a2] w fun e w' => e = .returned (.bool r) ∧ Below w.heap.size w w' := by
 (have hu32 := Try.underlying26); (have HS := A0_ (Sp.start w)); (have HP := A0_ hr0_0); (have HCP := A0_ hc0_0); (have HO := A0_ hr1); (have HCO := A0_ hc1); clear hr0_0 hc0_0 hr1 hc1; (unfold spec_l27Possible.f at h); (by_cases c8 : 0 ≤ IntKind.u64.wrap (l0_0.length : Int))
 ·(rw [if_pos c8] at h); (obtain ⟨t, A10, H⟩ := Option.bind_eq_some_iff.mp h); (obtain ⟨ji9, hji8⟩ : ∃ j, shl .i64 6 (IntKind.u64.wrap (l0_0.length : Int)) = j := ⟨_, rfl⟩); (rw [hji8] at A10); (have hji9 : wrap64 (6 * 2 ^ min (IntKind.u64.wrap (l0_0.length : Int)).toNat 64) = ji9 := (i64_w _).symm.trans hji8); (have HIN := A0_ A10); clear h A10 c8 hji8
  have fin : ∀ k x23, spec_l27Possible.j0 k l1 a2 x23 l0_0 = some r → (x23 = true ∧ r = false) ∨ (x23 = false ∧ ∃ K nx, spec_l27After.f K l1 a2 = some nx ∧ spec_l27Clear.f K l0_0 nx = some r) := by
   intro k x23 h
   cases k with
   | zero => cases h
   | succ k =>
    cases x23 with
    | true =>
     have h2 : (if true = true then some false else ((spec_l27After.f k l1 a2).bind fun t412 => ((spec_l27Clear.f k l0_0 t412).bind fun t415 => (some t415)))) = some r := h
     (rw [if_pos rfl] at h2); (exact .inl ⟨rfl, (Option.some.inj h2).symm⟩)
    | false =>
     have h2 : (if false = true then some false else ((spec_l27After.f k l1 a2).bind fun t412 => ((spec_l27Clear.f k l0_0 t412).bind fun t415 => (some t415)))) = some r := h
     (rw [if_neg (by simp)] at h2); (obtain ⟨nx, g1, h3⟩ := Option.bind_eq_some_iff.mp h2); (obtain ⟨b, g2, h4⟩ := Option.bind_eq_some_iff.mp h3); (obtain rfl := Option.some.inj h4); (exact .inr ⟨rfl, k, nx, g1, g2⟩)
  cases t with
  | false =>
   (rw [if_neg (by simp)] at H)
   have hr : r = false := by
    (rcases fin _ _ H with h | h)
    ·(exact h.2)
    ·(cases h.1)
   subst hr; clear fin H; (go_enter Try.func58, Try.ntmps58)
   go_wp2_with (first
    | ((with_reducible refine gate_dst (N := 3) rfl ?_); refine be_ (N := 3) (cs := #[.slice A0_0 l0_0.length c0_0]) (t := 26) ?_; intro ga hgb_ wb_ hcb_ hbb_; replace HS := A0_ (Sp.boxed HS.out hgb_ hcb_ hbb_); clear hgb_ hcb_ hbb_; have ha0 := (cl_ HS 0 0 rfl).trans rfl)
    | (go_at_call 64; refine (spec_l01In.calls a2 6 (wrap64 (ji9 - 1)) false _ HIN.out).mono ?_; rintro e wc_ ⟨rfl, hb_⟩; replace HS := A0_ (Sp.far HS.out hb_.below); clear hb_ ha0))
   go_ret; (exact ⟨rfl, HS.out.below⟩)
  | true =>
   (rw [if_pos rfl] at H)
   cases hb : ((wrap64 (a2.tdiv 6)).tmod 2 == 1) with
   | true =>
    (rw [hb] at H)
    have hr : r = false := by
     (rcases fin _ _ H with h | h)
     ·(exact h.2)
     ·(cases h.1)
    subst hr; (have hb2 : (wrap64 (a2.tdiv 6)).tmod 2 = 1 := by simpa using hb); clear fin H hb; (go_enter Try.func58, Try.ntmps58)
    go_wp2_with (first
     | ((with_reducible refine gate_dst (N := 3) rfl ?_); refine be_ (N := 3) (cs := #[.slice A0_0 l0_0.length c0_0]) (t := 26) ?_; intro ga hgb_ wb_ hcb_ hbb_; replace HS := A0_ (Sp.boxed HS.out hgb_ hcb_ hbb_); clear hgb_ hcb_ hbb_; have ha0 := (cl_ HS 0 0 rfl).trans rfl)
     | (go_at_call 64; refine (spec_l01In.calls a2 6 (wrap64 (ji9 - 1)) true _ HIN.out).mono ?_; rintro e wc_ ⟨rfl, hb_⟩; replace HS := A0_ (Sp.far HS.out hb_.below); clear hb_ ha0))
    go_ret; (exact ⟨rfl, HS.out.below⟩)
   | false =>
    (rw [hb] at H)
    obtain ⟨KQ, nx, hA, hC⟩ : ∃ K nx, spec_l27After.f K l1 a2 = some nx ∧ spec_l27Clear.f K l0_0 nx = some r := by
     (rcases fin _ _ H with h | h)
     ·(cases h.1)
     ·(exact h.2)
    (have HA := A0_ hA); (have HCL := A0_ hC); (have hb2 : ((wrap64 (a2.tdiv 6)).tmod 2 = 1) = False := eq_false (by simpa using hb)); clear fin H hA hC; (go_enter Try.func58, Try.ntmps58)
    go_wp2_with (first
     | ((with_reducible refine gate_dst (N := 3) rfl ?_); refine be_ (N := 3) (cs := #[.slice A0_0 l0_0.length c0_0]) (t := 26) ?_; intro ga hgb_ wb_ hcb_ hbb_; replace HS := A0_ (Sp.boxed HS.out hgb_ hcb_ hbb_); clear hgb_ hcb_ hbb_; have ha0 := (cl_ HS 0 0 rfl).trans rfl)
     | (go_at_call 64; refine (spec_l01In.calls a2 6 (wrap64 (ji9 - 1)) true _ HIN.out).mono ?_; rintro e wc_ ⟨rfl, hb_⟩; replace HS := A0_ (Sp.far HS.out hb_.below); clear hb_ ha0; have ha0 := (cl_ HS 0 0 rfl).trans rfl))
    (have HS_ := A0_ (show Sp w ([Res.blk ga #[.slice A0_0 l0_0.length c0_0] 26] ++ ([] : List Res)) wc_.drew from Sp.drew HS.out)); clear HS ha0; (have HS := HS_); clear HS_
    refine start_ (n := 6) (S := fun w' => w'.cell? ⟨ga, 0, none⟩ = some (.slice A0_0 l0_0.length c0_0)) (ds := []) #[ff,ff,ff,ff,ff,ff] (by kernel_rfl) rfl rfl ((cl_ HS 0 0 rfl).trans rfl) (fun hHeld => ?_)
    refine with_tabW possF.tab4 possF.bits4 (fun HT_ HW_ => ?_)
    (generalize wc_.drew = wD at HS hHeld ⊢); (refine tk_ 0 (some 24) ?_); (refine on_ 1 (some 25) ?_); (refine on_ 2 (some 26) ?_)
    refine o1_ 3 (some 27) (fun K hK => ?_)
    (refine gs_ Try.func59 #[.slice A1 l1.length c1, .int .i64 a2] ?_); (refine (spec_l27After.calls KQ A1 c1 l1 a2 nx _ (Kd.C_below HO.out HS.out.below) HCO.out HA.out).mono ?_); (rintro e wd_ ⟨vd_, rfl, ho_, hb_⟩); (refine ⟨_, rfl, ?_⟩); (replace HS := A0_ (Sp.made' HS.out hb_ ho_)); (obtain ⟨Ad_, cd_, rfl⟩ := Kd.R_slice ho_); clear ho_ hb_
    refine hK.out _ _ ((cl_ HS 1 0 rfl).trans rfl) (fun hHeld => ?_)
    clear hK K; (refine nm_ (some 27) ?_)
    refine o1_ 4 (some 28) (fun K hK => ?_)
    (refine gs_ Try.func88 #[.agg #[.slice A0_0 l0_0.length c0_0], .slice Ad_ nx.length cd_] ?_); (refine (spec_l27Clear.calls KQ A0_0 c0_0 l0_0 Ad_ cd_ nx r _ (Kd.C_below HP.out HS.out.below) HCP.out (Sp.reads HS.out (i := 0) rfl).2.2 (Sp.reads HS.out (i := 0) rfl).2.1 HCL.out).mono ?_); (rintro e we_ ⟨rfl, hb_⟩); (refine ⟨_, rfl, ?_⟩); (replace HS := A0_ (Sp.far HS.out hb_)); clear hb_
    refine hK.out _ _ ((cl_ HS 1 0 rfl).trans rfl) (fun hHeld => ?_)
    clear hK K; (refine nm_ (some 28) ?_); (refine on_ 5 (some 6) ?_); (refine dn_ ?_); (try go_wp2); go_ret; (exact ⟨rfl, HS.out.below⟩)
 ·(rw [if_neg c8] at h); (cases h)
end
end Go.Proofs.Ytcobnlilmihjfaa.A
