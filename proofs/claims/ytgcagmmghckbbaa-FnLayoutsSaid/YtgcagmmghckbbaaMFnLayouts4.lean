/- What the row of the law FnLayouts stands on, part 4. -/
import Derived.Test.YtgcagmmghckbbaaMFnLayouts3
/- HAND spec_l30Visit (spec.l30Visit): the reference's search for layouts comes to what its plain twin comes to. -/
namespace Go.Proofs.Ytgcagmmghckbbaa.A
open Go.RowKit Go.Proofs.YtgcagmmghckbbaaW.PrintWords Go.Proofs.YtgcagmmghckbbaaW.PrintLast Go.Proofs.YtgcagmmghckbbaaW.PrintMore
attribute [local go_sem] max2_int min2_int max_two min_two max_three min_three max_four min_four   -- for this text's walks alone
set_option linter.unusedVariables false
set_option linter.unusedSimpArgs false
attribute [local go_sem high] eqA24
mutual
def spec_l30Visit.l0 : Nat → List (S74) → List (S24) → Int → List (S24) → Int → Int → Int → List (List (S74)) → Int → Bool → Option (Int × Int × Int × List (List (S74)) × Int × Bool)
  | 0, _, _, _, _, _, _, _, _, _, _ => none
  | k + 1, x1, x2, x6, x1000, x1001, x1002, x1003, x1004, x1005, x1006 => if x6 < (x1000.length : Int) then (spec_l30Visit.l1 k x1 x2 x6 false 0 x1000 x1001 x1002 x1003 x1004 x1005 x1006) else (some (x1001, x1002, x1003, x1004, x1005, x1006))
def spec_l30Visit.l1 : Nat → List (S74) → List (S24) → Int → Bool → Int → List (S24) → Int → Int → Int → List (List (S74)) → Int → Bool → Option (Int × Int × Int × List (List (S74)) × Int × Bool)
  | 0, _, _, _, _, _, _, _, _, _, _, _, _ => none
  | k + 1, x1, x2, x6, x7, x8, x1000, x1001, x1002, x1003, x1004, x1005, x1006 => if x8 < (x1.length : Int) then (if x7 = true then (spec_l30Visit.l1 k x1 x2 x6 true (wrap64 (x8 + 1)) x1000 x1001 x1002 x1003 x1004 x1005 x1006) else (if 0 ≤ x8 then (spec_l30Visit.l1 k x1 x2 x6 (((rd_T74 x1 x8).f0) == x6) (wrap64 (x8 + 1)) x1000 x1001 x1002 x1003 x1004 x1005 x1006) else (none))) else (spec_l30Visit.l2 k x1 x2 x6 x7 0 x1000 x1001 x1002 x1003 x1004 x1005 x1006)
def spec_l30Visit.l2 : Nat → List (S74) → List (S24) → Int → Bool → Int → List (S24) → Int → Int → Int → List (List (S74)) → Int → Bool → Option (Int × Int × Int × List (List (S74)) × Int × Bool)
  | 0, _, _, _, _, _, _, _, _, _, _, _, _ => none
  | k + 1, x1, x2, x6, x7, x9, x1000, x1001, x1002, x1003, x1004, x1005, x1006 => if x9 < 4 then (if x7 = true then (spec_l30Visit.j3 k x1 x2 x6 x7 x9 false x1000 x1001 x1002 x1003 x1004 x1005 x1006) else (if x1006 = true then (spec_l30Visit.j3 k x1 x2 x6 x7 x9 false x1000 x1001 x1002 x1003 x1004 x1005 x1006) else (spec_l30Visit.j3 k x1 x2 x6 x7 x9 (decide ((x1004.length : Int) < x1005)) x1000 x1001 x1002 x1003 x1004 x1005 x1006))) else (spec_l30Visit.j3 k x1 x2 x6 x7 x9 false x1000 x1001 x1002 x1003 x1004 x1005 x1006)
def spec_l30Visit.j3 : Nat → List (S74) → List (S24) → Int → Bool → Int → Bool → List (S24) → Int → Int → Int → List (List (S74)) → Int → Bool → Option (Int × Int × Int × List (List (S74)) × Int × Bool)
  | 0, _, _, _, _, _, _, _, _, _, _, _, _, _ => none
  | k + 1, x1, x2, x6, x7, x9, x97, x1000, x1001, x1002, x1003, x1004, x1005, x1006 => if x97 = true then (if 0 ≤ x6 then (if x6 < (x1000.length : Int) then ((spec_l30Turn.f ((rd_T24 x1000 x6).f0) ((rd_T24 x1000 x6).f1) ((rd_T24 x1000 x6).f2) ((rd_T24 x1000 x6).f3) x9).bind fun bt600 => (spec_l30Visit.l3 k x1 x2 x6 x7 x9 false 0 x1000 x1001 x1002 x1003 x1004 x1005 x1006 bt600.1 bt600.2.1 bt600.2.2.1 bt600.2.2.2)) else (none)) else (none)) else (spec_l30Visit.l0 k x1 x2 (wrap64 (x6 + 1)) x1000 x1001 x1002 x1003 x1004 x1005 x1006)
def spec_l30Visit.l3 : Nat → List (S74) → List (S24) → Int → Bool → Int → Bool → Int → List (S24) → Int → Int → Int → List (List (S74)) → Int → Bool → Int → Int → Int → Int → Option (Int × Int × Int × List (List (S74)) × Int × Bool)
  | 0, _, _, _, _, _, _, _, _, _, _, _, _, _, _, _, _, _, _ => none
  | k + 1, x1, x2, x6, x7, x9, x11, x12, x1000, x1001, x1002, x1003, x1004, x1005, x1006, x605000, x605001, x605002, x605003 => if x12 < x9 then (if x11 = true then (spec_l30Visit.l3 k x1 x2 x6 x7 x9 true (wrap64 (x12 + 1)) x1000 x1001 x1002 x1003 x1004 x1005 x1006 x605000 x605001 x605002 x605003) else (if 0 ≤ x6 then (if x6 < (x1000.length : Int) then ((spec_l30Turn.f ((rd_T24 x1000 x6).f0) ((rd_T24 x1000 x6).f1) ((rd_T24 x1000 x6).f2) ((rd_T24 x1000 x6).f3) x12).bind fun bt606 => (spec_l30Visit.l3 k x1 x2 x6 x7 x9 (bt606.1 == x605000 && (bt606.2.1 == x605001 && (bt606.2.2.1 == x605002 && (bt606.2.2.2 == x605003)))) (wrap64 (x12 + 1)) x1000 x1001 x1002 x1003 x1004 x1005 x1006 x605000 x605001 x605002 x605003)) else (none)) else (none))) else (if x11 = true then (spec_l30Visit.l2 k x1 x2 x6 x7 (wrap64 (x9 + 1)) x1000 x1001 x1002 x1003 x1004 x1005 x1006) else ((spec_l30Fits.f k x2 x605000 x605001 x605002 x605003 x1001 x1002).bind fun t610 => (if t610 = true then ((some (([] : List (S74)) : List (S74))).bind fun y611 => (if y611.length + x1.length < 8796093022208 then ((some (y611 ++ x1 : List (S74))).bind fun y614 => ((some (([(⟨x6, x9⟩ : S74)] : List (S74)) : List (S74))).bind fun y617 => (if y614.length + y617.length < 8796093022208 then ((some (([] : List (S24)) : List (S24))).bind fun y623 => (if y623.length + x2.length < 4398046511104 then ((some (y623 ++ x2 : List (S24))).bind fun y626 => ((some (([(⟨x605000, x605001, x605002, x605003⟩ : S24)] : List (S24)) : List (S24))).bind fun y629 => (if y626.length + y629.length < 4398046511104 then ((spec_l30Visit.f k x1000 x1001 x1002 x1003 x1004 x1005 x1006 (y614 ++ y617) (y626 ++ y629)).bind fun bt635 => (spec_l30Visit.l2 k x1 x2 x6 x7 (wrap64 (x9 + 1)) x1000 bt635.1 bt635.2.1 bt635.2.2.1 bt635.2.2.2.1 bt635.2.2.2.2.1 bt635.2.2.2.2.2)) else (none)))) else (none))) else (none)))) else (none))) else (spec_l30Visit.l2 k x1 x2 x6 x7 (wrap64 (x9 + 1)) x1000 x1001 x1002 x1003 x1004 x1005 x1006))))
def spec_l30Visit.f : Nat → List (S24) → Int → Int → Int → List (List (S74)) → Int → Bool → List (S74) → List (S24) → Option (Int × Int × Int × List (List (S74)) × Int × Bool)
  | 0, _, _, _, _, _, _, _, _, _ => none
  | k + 1, s0_0, s0_1, s0_2, s0_3, s0_4, s0_5, s0_6, l1, l2 => if (wrap64 (s0_3 + 1)) > 5000 then (some (s0_1, s0_2, wrap64 (s0_3 + 1), s0_4, s0_5, true)) else (if (l2.length : Int) = (s0_0.length : Int) then (if l1.length < 8796093022208 then (if s0_4.length < 5864062014805 then (some (s0_1, s0_2, wrap64 (s0_3 + 1), s0_4 ++ [l1], s0_5, s0_6)) else (none)) else (none)) else (spec_l30Visit.l0 k l1 l2 0 s0_0 s0_1 s0_2 (wrap64 (s0_3 + 1)) s0_4 s0_5 s0_6))
end
def spec_l30Visit.T23 : Bool × List (List Nat × List Nat) := (true, [([], []), ([], []), ([], []), ([1, 2], [1, 2]), ([], []), ([], []), ([4, 5], [4, 5]), ([6], [6]), ([3, 7, 3], [3, 7]), ([], []), ([], []), ([9, 10, 8], [9, 10]), ([], []), ([12], [12]), ([11, 13, 11], [11, 13]), ([0, 8, 14, 14], [0, 8, 14])])
def spec_l30Visit.B23 : List Nat := [0, 0, 0, 6, 0, 0, 48, 112, 254, 0, 0, 2046, 0, 4096, 16382, 32767]
theorem spec_l30Visit.tab23 : rtab .any (opsOf Try.f78 23) = spec_l30Visit.T23 := by kernel_rfl
theorem spec_l30Visit.bits23 : waitsOk spec_l30Visit.T23.2 spec_l30Visit.B23 = true := by kernel_rfl
def spec_l30Visit.T21 : Bool × List (List Nat × List Nat) := (true, [([], []), ([0], [0]), ([1], [1]), ([2, 1], [1, 2]), ([3, 1], [1, 3]), ([4, 1], [1, 4]), ([1], [1]), ([5, 6, 1], [1, 5, 6]), ([7, 1], [1, 7]), ([1], [1]), ([8, 9, 1, 1], [1, 8, 9]), ([1], [1]), ([10, 11, 1], [1, 10, 11]), ([1, 12], [1, 12]), ([13, 10, 0, 1, 2, 3, 4, 5, 6, 7, 8, 9, 10, 11, 12, 13], [0, 13])])
def spec_l30Visit.B21 : List Nat := [0, 1, 3, 7, 15, 31, 3, 127, 255, 3, 1023, 3, 4095, 8191, 16383]
theorem spec_l30Visit.tab21 : rtab .any (opsOf Try.f78 21) = spec_l30Visit.T21 := by kernel_rfl
theorem spec_l30Visit.bits21 : waitsOk spec_l30Visit.T21.2 spec_l30Visit.B21 = true := by kernel_rfl
def spec_l30Visit.T22 : Bool × List (List Nat × List Nat) := (true, [([], []), ([0], [0]), ([1], [1]), ([2], [2]), ([2], [2]), ([2], [2]), ([5, 2], [2, 5]), ([6, 2], [2, 6]), ([7, 2], [2, 7]), ([2], [2]), ([9, 2], [2, 9]), ([10, 2], [2, 10]), ([11, 2], [2, 11]), ([3, 4, 8, 12, 2, 2], [2, 3, 4, 8, 12]), ([2, 13], [2, 13])])
def spec_l30Visit.B22 : List Nat := [0, 1, 3, 7, 7, 7, 39, 103, 231, 7, 519, 1543, 3591, 8191, 16383]
theorem spec_l30Visit.tab22 : rtab .any (opsOf Try.f78 22) = spec_l30Visit.T22 := by kernel_rfl
theorem spec_l30Visit.bits22 : waitsOk spec_l30Visit.T22.2 spec_l30Visit.B22 = true := by kernel_rfl
def spec_l30Visit.T4 : Bool × List (List Nat × List Nat) := (true, [([], []), ([], []), ([1], [1]), ([2], [2]), ([3], [3]), ([], []), ([], []), ([5, 6], [5, 6]), ([7], [7]), ([4, 8, 7], [4, 8]), ([0, 0, 1, 2, 3, 4, 5, 6, 7, 8, 9], [0]), ([10, 0, 1, 2, 3, 4, 5, 6, 7, 8, 9], [10]), ([11, 9, 9, 0, 1, 2, 3, 4, 5, 6, 7, 8, 9], [9, 11])])
def spec_l30Visit.B4 : List Nat := [0, 0, 2, 6, 14, 0, 0, 96, 224, 510, 1023, 2047, 4095]
theorem spec_l30Visit.tab4 : rtab .any (opsOf Try.f78 4) = spec_l30Visit.T4 := by kernel_rfl
theorem spec_l30Visit.bits4 : waitsOk spec_l30Visit.T4.2 spec_l30Visit.B4 = true := by kernel_rfl
set_option maxHeartbeats 8000000 in
set_option maxRecDepth 100000 in
theorem spec_l30Visit.calls (k : Nat) : ∀ (g : Nat) (s0_0 : List (S24)) (s0_1 : Int) (s0_2 : Int) (s0_3 : Int) (s0_4 : List (List (S74))) (s0_5 : Int) (s0_6 : Bool) (A1 : Option Addr) (c1 : Nat) (l1 : List (S74)) (A2 : Option Addr) (c2 : Nat) (l2 : List (S24)) (r1 : Int) (r2 : Int) (r3 : Int) (r4 : List (List (S74))) (r5 : Int) (r6 : Bool) (w0 w : World) (hI : IsS84 w0 w g s0_0 s0_1 s0_2 s0_3 s0_4 s0_5 s0_6) (hB : Below w0.heap.size w0 w) (hr1 : ∀ W_, KB w W_ g none → Kd.C k74 W_ A1 l1.length l1) (hc1 : l1.length ≤ c1) (hr2 : ∀ W_, KB w W_ g none → Kd.C k24 W_ A2 l2.length l2) (hc2 : l2.length ≤ c2) (h : spec_l30Visit.f k s0_0 s0_1 s0_2 s0_3 s0_4 s0_5 s0_6 l1 l2 = some (r1, r2, r3, r4, r5, r6)),
    Calls Try.prog 78 #[.pointer (some ⟨g, 0, none⟩), .slice A1 l1.length c1, .slice A2 l2.length c2] w fun e w' => e = .returned (.tuple #[]) ∧ IsS84 w0 w' g s0_0 r1 r2 r3 r4 r5 r6 ∧ Below w0.heap.size w0 w' ∧ KB w w' g none := by
 induction k using Nat.strongRecOn with
 | _ k ih =>
 intro g s0_0 s0_1 s0_2 s0_3 s0_4 s0_5 s0_6 A1 c1 l1 A2 c2 l2 r1 r2 r3 r4 r5 r6 w0 w hI hB hr1 hc1 hr2 hc2 h
 cases k with
 | zero => exact absurd h (by simp [spec_l30Visit.f])
 | succ k =>
 (simp only [spec_l30Visit.f] at h); (have hu24 := Try.underlying24); (have hu74 := Try.underlying74); (have HR1 := A0_ hr1); (have HC1 := A0_ hc1); clear hr1 hc1; (have HR2 := A0_ hr2); (have HC2 := A0_ hc2); clear hr2 hc2; (have HI0 := A0_ hI); (have HK := A0_ (KB.refl w g none)); (have HL := A0_ hB.size); clear hI; (have HW0 := A0_ hB.size); (have HB := A0_ hB); clear hB; (have H : (if (wrap64 (s0_3 + 1)) > 5000 then (some (s0_1, s0_2, wrap64 (s0_3 + 1), s0_4, s0_5, true)) else (if (l2.length : Int) = (s0_0.length : Int) then (if l1.length < 8796093022208 then (if s0_4.length < 5864062014805 then (some (s0_1, s0_2, wrap64 (s0_3 + 1), s0_4 ++ [l1], s0_5, s0_6)) else (none)) else (none)) else (spec_l30Visit.l0 k l1 l2 0 s0_0 s0_1 s0_2 (wrap64 (s0_3 + 1)) s0_4 s0_5 s0_6))) = some (r1, r2, r3, r4, r5, r6) := h); clear h; (by_cases c4 : (wrap64 (s0_3 + 1)) > 5000)
 ·(rw [if_pos c4] at H); (have c4b0 : decide (5000 < (wrap64 (s0_3 + 1))) = true := decide_eq_true c4); clear c4; (simp only [Option.some.injEq, Prod.mk.injEq] at H); (obtain ⟨rfl, rfl, rfl, rfl, rfl, rfl⟩ := H); (obtain ⟨ASz5_0, cSz5_0, ASz5_4, cSz5_4, HGz5, hgz5, HSz5_0, _⟩ := HI0.out); (have hcz5_0 := cellS84_0 HGz5); (have hcz5_1 := cellS84_1 HGz5); (have hcz5_2 := cellS84_2 HGz5); (have hcz5_3 := cellS84_3 HGz5); (have hcz5_4 := cellS84_4 HGz5); (have hcz5_5 := cellS84_5 HGz5); (have hcz5_6 := cellS84_6 HGz5); (have hfz5_1 := blk_frozen HGz5 1); (have hfz5_2 := blk_frozen HGz5 2); (have hfz5_3 := blk_frozen HGz5 3); (have hfz5_4 := blk_frozen HGz5 4); (have hfz5_5 := blk_frozen HGz5 5); (have hfz5_6 := blk_frozen HGz5 6); clear HGz5 hgz5; (go_enter Try.func78, Try.ntmps78); go_wp2; (first | go_end0 | ((try simp only [Exit.inBlock, Exit.then]); refine bodyPost_ret (results_none rfl _ _ _) rfl ?_)); (exact ⟨by first | rfl | (simp [errW_none, errW_some] <;> rfl) | (simp [*, errW_none, errW_some] <;> rfl), by repeat (first | (with_reducible first | exact HI0.out | apply IsV.alloc | apply IsV.drewN | apply IsV.drew | apply IsV.set_3 | apply IsV.set_6) | exact HI0.out), by repeat (first | (with_reducible first | exact HB.out | apply ba_ | apply bn_ | apply bd_ | refine below_set ?_ (IsV.ge HI0.out)) | exact HB.out), by repeat (first | (with_reducible first | exact HK.out | apply KB.set_ | apply kb_drewN | apply kb_drew | apply kb_alloc) | exact HK.out)⟩)
 ·(rw [if_neg c4] at H); (have c4b0 : decide (5000 < (wrap64 (s0_3 + 1))) = false := decide_eq_false c4); clear c4; (by_cases c6 : (l2.length : Int) = (s0_0.length : Int))
  ·(rw [if_pos c6] at H); (have c6b0 : ((l2.length : Int) == (s0_0.length : Int)) = true := beq_iff_eq.mpr c6); (have c6b1 : ((l2.length : Int) != (s0_0.length : Int)) = false := bne_eq_false_iff_eq.mpr c6); (have c6b2 : (l2.length == s0_0.length) = true := by first | simpa using c6 | (simp at c6 ⊢; omega)); clear c6; (by_cases c6l : l1.length < 8796093022208)
   ·(rw [if_pos c6l] at H); (have c6L := A0_ c6l); clear c6l; (by_cases c6m : s0_4.length < 5864062014805)
    ·(rw [if_pos c6m] at H); (have c6M := A0_ c6m); clear c6m; (simp only [Option.some.injEq, Prod.mk.injEq] at H); (obtain ⟨rfl, rfl, rfl, rfl, rfl, rfl⟩ := H); (obtain ⟨ASz7_0, cSz7_0, ASz7_4, cSz7_4, HGz7, hgz7, HSz7_0, _⟩ := HI0.out); (have hcz7_0 := cellS84_0 HGz7); (have hcz7_1 := cellS84_1 HGz7); (have hcz7_2 := cellS84_2 HGz7); (have hcz7_3 := cellS84_3 HGz7); (have hcz7_4 := cellS84_4 HGz7); (have hcz7_5 := cellS84_5 HGz7); (have hcz7_6 := cellS84_6 HGz7); (have hfz7_1 := blk_frozen HGz7 1); (have hfz7_2 := blk_frozen HGz7 2); (have hfz7_3 := blk_frozen HGz7 3); (have hfz7_4 := blk_frozen HGz7 4); (have hfz7_5 := blk_frozen HGz7 5); (have hfz7_6 := blk_frozen HGz7 6); clear HGz7 hgz7; (go_enter Try.func78, Try.ntmps78); go_wp2; (have HI4 := A0_ (IsV.drew (IsV.set_3 HI0.out (wrap64 (s0_3 + 1))))); (have HK4 := A0_ (kb_drew (KB.set_ HK.out 3 (.int .i64 (wrap64 (s0_3 + 1)))))); (have HB4 := A0_ (below_drew1 (below_set (g := g) (j := 3) (v := .int .i64 (wrap64 (s0_3 + 1))) HB.out (IsV.ge HI0.out)))); (obtain ⟨A0, c0, A4, c4, HG, hg4, hC4, HF⟩ := HI4.out.bound); (replace HG := A0_ HG); (replace HF := A0_ HF); clear HI4; (try clear hcz7_0 hcz7_1 hcz7_2 hcz7_3 hcz7_4 hcz7_5 hcz7_6)
     refine start_ (n := 13) (S := fun w' => w'.cell? ⟨g, 4, none⟩ = some (.slice A4 s0_4.length c4)) (ds := [12]) #[ff,ff,ff,ff,ff,ff,ff,ff,ff,ff,ff,ff,ff] (by kernel_rfl) rfl rfl (cellS84_4 HG.out) (fun hHeld => ?_)
     refine with_tabW spec_l30Visit.tab4 spec_l30Visit.bits4 (fun HT_ HW_ => ?_)
     (generalize (w.setCell ⟨g, 3, none⟩ (.int .i64 (wrap64 (s0_3 + 1)))).drew = wS at HG HF HK4 HB4 hHeld ⊢); (have HS4 := A0_ (kb_size HK4.out)); (have HZ4 := A0_ HB4.out.size)
     refine pure_ (i := 0) (N := some 36) (v := ?_) (a' := ?_) #[tt,ff,ff,ff,ff,ff,ff,ff,ff,ff,ff,ff,ff] rfl rfl (any_of HT_.out (by kernel_rfl)) (fun _ _ _ h => h) (Or.inl ⟨by rfl, ?_⟩) ?_ ?_
     rotate_left
     ·intro w'; go_simp; with_reducible rfl
     rotate_left
     ·(simp only [Act.put, sia_, sz_, ss_, i64_w, i32_w]); rfl
     refine pure_ (i := 1) (N := some 37) (v := ?_) (a' := ?_) #[tt,tt,ff,ff,ff,ff,ff,ff,ff,ff,ff,ff,ff] rfl rfl (any_of HT_.out (by kernel_rfl)) (fun _ _ _ h => h) (Or.inl ⟨by rfl, ?_⟩) ?_ ?_
     rotate_left
     ·intro w'; go_simp; with_reducible rfl
     rotate_left
     ·(simp only [Act.put, sia_, sz_, ss_, i64_w, i32_w]); rfl
     refine pure_ (i := 2) (N := some 38) (v := ?_) (a' := ?_) #[tt,tt,tt,ff,ff,ff,ff,ff,ff,ff,ff,ff,ff] rfl rfl (any_of HT_.out (by kernel_rfl)) (fun _ _ _ h => h) (Or.inl ⟨by rfl, ?_⟩) ?_ ?_
     rotate_left
     ·intro w'; go_simp; with_reducible rfl
     rotate_left
     ·(simp only [Act.put, sia_, sz_, ss_, i64_w, i32_w]); rfl
     refine pure_ (i := 3) (N := some 39) (v := ?_) (a' := ?_) #[tt,tt,tt,tt,ff,ff,ff,ff,ff,ff,ff,ff,ff] rfl rfl (any_of HT_.out (by kernel_rfl)) (fun _ _ _ h => h) (Or.inl ⟨by rfl, ?_⟩) ?_ ?_
     rotate_left
     ·intro w'; go_simp; with_reducible rfl
     rotate_left
     ·(simp only [Act.put, sia_, sz_, ss_, i64_w, i32_w]); rfl
     refine take_ (i := 4) (N := some 40) (v := ?_) (a' := ?_) #[tt,tt,tt,tt,tt,ff,ff,ff,ff,ff,ff,ff,ff] rfl rfl (take_ofW HT_.out HW_.out (by kernel_rfl)) (fun _ _ _ h => h) (Or.inl ⟨by rfl, ?_⟩) hHeld ?_ ?_
     rotate_left
     ·(rintro w' s0); go_simp; with_reducible rfl
     rotate_left
     ·(simp only [Act.put, sia_, sz_, ss_, i64_w, i32_w]); rfl
     refine pure_ (i := 6) (N := some 42) (v := ?_) (a' := ?_) #[tt,tt,tt,tt,tt,ff,tt,ff,ff,ff,ff,ff,ff] rfl rfl (any_of HT_.out (by kernel_rfl)) (fun _ _ _ h => h) (Or.inl ⟨by rfl, ?_⟩) ?_ ?_
     rotate_left
     ·intro w'; go_simp; with_reducible rfl
     rotate_left
     ·(simp only [Act.put, sia_, sz_, ss_, i64_w, i32_w]); rfl
     refine one_ (i := 5) (N := some 41) #[tt,tt,tt,tt,tt,tt,tt,ff,ff,ff,ff,ff,ff] rfl rfl (one_of HT_.out (by kernel_rfl)) (by decide) (fun K hK => ?_)
     refine Kd.R_lit_step k74 _ 74 ?hg (N := 41) ?hd (xs := ([] : List (S74))) (inner := []) (ok := fun _ => True) (okp := fun _ => True) ?hr ?hp (fun _ hk => hk) trivial (Below.refl _ _) (Nat.le_refl _) (by simp) ?_; (case hd => rfl); (case hg => rfl); (case hr => first | (go_simp; done) | (go_simp; rfl)); (case hp => exact (Reps.none _ _))
     intro v5 w5 ho5 hb5 hg_ hnew_; clear hg_ hnew_; (have HG5 := A0_ (blk_below HG.out hb5)); (have HF5 := A0_ (Kd.R_below HF.out hb5)); (have HK5 := A0_ (KB.trans HK4.out (KeepBut.of_below hb5 g none) (.inl rfl))); (have HB5 := A0_ (below_step HB4.out hb5))
     refine hK.out _ _ ((blk_cell HG5.out 4).trans rfl) (fun hHeld => ?_)
     clear hK K; (refine norm_ (a' := ?_) ?_ ?_); rotate_left
     ·(show Act.put _ (some 41) _ = _); (simp only [Act.put, sia_, sz_, ss_, i64_w, i32_w]); rfl
     refine one_ (i := 7) (N := some 43) #[tt,tt,tt,tt,tt,tt,tt,tt,ff,ff,ff,ff,ff] rfl rfl (one_of HT_.out (by kernel_rfl)) (by decide) (fun K hK => ?_)
     refine Kd.R_append_rows_step k74 wS.heap.size (by rfl) (.tmp 41) (.tmp 42) 51 74 (.agg #[(.int .i64 0), (.int .i64 0)]) 16 rfl Try.underlying51 info74 rfl (by decide) (by omega) v5 ([] : List (S74)) l1 _ _ _ (fun _ => True) (fun _ => False) rfl rfl ?aO ?aR (fun _ _ h => h) (fun _ h => h.elim) ?aF (Below.refl _ _) ?aS ?aL ?_
     ((case aR => exact kbC_foot_now HR1.out HK5.out))
     (case aF => exact (fun _ _ => trivial))
     ((case aO => exact ho5)); ((case aS => exact hb5.size)); ((case aL => have := c6L.out; simp only [List.length_nil]; omega)); intro v7 w7 ho7 hb7 hg7 hat7; (have HG7 := A0_ (blk_grown HG5.out hg7 (Kd.R_ne ho5 HG5.out (by decide))))
     have HF7 := A0_ (R_grown HF5.out hg7 (fun k hk he => Nat.lt_irrefl _ (Nat.lt_of_lt_of_le hk (Kd.R_base ho5 k he.symm))))
     (have HK7 := A0_ (KB.transS HK5.out (KeepBut.of_grown hg7 g) (Kd.R_base2 ho5) HS4.out)); (have HB7 := A0_ (below_weaken HB5.out HZ4.out hb7)); (obtain ⟨A7, c7, rfl⟩ := Kd.R_slice ho7)
     refine hK.out _ _ ((blk_cell HG7.out 4).trans rfl) (fun hHeld => ?_)
     clear hK K; (refine norm_ (a' := ?_) ?_ ?_); rotate_left
     ·(show Act.put _ (some 43) _ = _); (simp only [Act.put, sia_, sz_, ss_, i64_w, i32_w]); rfl
     refine one_ (i := 8) (N := some 44) #[tt,tt,tt,tt,tt,tt,tt,tt,tt,ff,ff,ff,ff] rfl rfl (one_of HT_.out (by kernel_rfl)) (by decide) (fun K hK => ?_)
     (refine event_step (v := .slice (some ⟨w7.heap.size, 0, none⟩) 1 1) (w1 := w7.alloc (.cells #[.slice A7 (([] : List (S74)) ++ l1).length c7] 51)) (by rfl) ?_ ?_)
     ·(first | (go_simp; done) | (go_simp; rfl))
     refine hK.out _ _ ((blk_cell (blk_alloc HG7.out _) 4).trans rfl) (fun hHeld => ?_)
     clear hK K; (refine norm_ (a' := ?_) ?_ ?_); rotate_left
     ·(show Act.put _ (some 44) _ = _); (simp only [Act.put, sia_, sz_, ss_, i64_w, i32_w]); rfl
     refine one_ (i := 9) (N := some 45) #[tt,tt,tt,tt,tt,tt,tt,tt,tt,tt,ff,ff,ff] rfl rfl (one_of HT_.out (by kernel_rfl)) (by decide) (fun K hK => ?_)
     refine Kd.R_append_step kF (w0 := w7) (W := w7) w0.heap.size (by rfl) (.tmp 40) (.tmp 44) 82 51 (.slice none 0 0) 24 rfl Try.underlying82 info51 rfl (by decide) (by omega) (.slice A4 s0_4.length c4) s0_4 (([] : List (S74)) ++ l1) [.slice A7 (([] : List (S74)) ++ l1).length c7] (fun _ => True) (fun k_ => wS.heap.size ≤ k_) rfl rfl ?aP ?aK (fun _ _ => trivial) ?aO (Below.refl _ _) ?aS ?aL ?_
     (case aP => exact ⟨_, rfl, Kd.R_lower (Kd.R_mono (Kd.R_bound ho7) (fun _ h => h.2.1)) HZ4.out⟩)
     (case aK => exact fun k hk => ⟨trivial, fun he => Nat.lt_irrefl _ (Nat.lt_of_lt_of_le (HF7.out.1 k he.symm) hk)⟩)
     (case aO => exact Kd.R_mono HF7.out (fun _ _ => trivial))
     ((case aS => exact Nat.le_trans HB7.out.size (Nat.le_refl _))); ((case aL => have := c6M.out; omega)); intro v9 w9 ho9 hb9 hg9 hat9; (have HG9 := A0_ (blk_grown HG7.out hg9 (Kd.R_ne HF7.out HG7.out (by decide)))); (have HK9 := A0_ (KB.rows HK7.out hg9 (Kd.R_typed HF7.out))); (have HB9 := A0_ (below_weaken HB7.out (Nat.le_refl _) hb9)); (obtain ⟨A9, c9, rfl⟩ := Kd.R_slice ho9); (have hz9 := blk_frozen HG9.out 4); (have hy9 : w9.cell? ⟨g, 4, none⟩ = some (.slice A4 s0_4.length c4) := (blk_cell HG9.out 4).trans rfl)
     refine hK.out _ _ hy9 (fun hHeld => ?_)
     clear hK K; (refine norm_ (a' := ?_) ?_ ?_); rotate_left
     ·(show Act.put _ (some 45) _ = _); (simp only [Act.put, sia_, sz_, ss_, i64_w, i32_w]); rfl
     refine pure_ (i := 10) (N := some 46) (v := ?_) (a' := ?_) #[tt,tt,tt,tt,tt,tt,tt,tt,tt,tt,tt,ff,ff] rfl rfl (any_of HT_.out (by kernel_rfl)) (fun _ _ _ h => h) (Or.inl ⟨by rfl, ?_⟩) ?_ ?_
     rotate_left
     ·intro w'; go_simp; with_reducible rfl
     rotate_left
     ·(simp only [Act.put, sia_, sz_, ss_, i64_w, i32_w]); rfl
     refine pure_ (i := 11) (N := some 47) (v := ?_) (a' := ?_) #[tt,tt,tt,tt,tt,tt,tt,tt,tt,tt,tt,tt,ff] rfl rfl (any_of HT_.out (by kernel_rfl)) (fun _ _ _ h => h) (Or.inl ⟨by rfl, ?_⟩) ?_ ?_
     rotate_left
     ·intro w'; go_simp; with_reducible rfl
     rotate_left
     ·(simp only [Act.put, sia_, sz_, ss_, i64_w, i32_w]); rfl
     refine last_ (i := 12) (N := none) #[tt,tt,tt,tt,tt,tt,tt,tt,tt,tt,tt,tt,tt] rfl rfl (one_of HT_.out (by kernel_rfl)) (by decide) (fun K hK => ?_)
     (refine skip_ (w1 := w9.setCell ⟨g, 4, none⟩ (.slice A9 (s0_4 ++ [([] : List (S74)) ++ l1]).length c9)) (by rfl) rfl (by first | (go_simp; done) | (go_simp; rfl)) ?_); (refine hK.out _ _ ?_); clear hK K; (refine done_ (done_of HT_.out (by kernel_rfl)) ?_); (try go_wp2); (first | go_end0 | ((try simp only [Exit.inBlock, Exit.then]); refine bodyPost_ret (results_none rfl _ _ _) rfl ?_)); (exact ⟨by first | rfl | (simp [errW_none, errW_some] <;> rfl), IsV.set_4 HG9.out hg4 hC4 ho9, below_set HB9.out hg4, KB.set_ HK9.out 4 _⟩)
    ·(rw [if_neg c6m] at H); (exact absurd H (by simp))
   ·(rw [if_neg c6l] at H); (exact absurd H (by simp))
  ·(rw [if_neg c6] at H); (have c6b0 : ((l2.length : Int) == (s0_0.length : Int)) = false := beq_eq_false_iff_ne.mpr c6); (have c6b1 : ((l2.length : Int) != (s0_0.length : Int)) = true := bne_iff_ne.mpr c6); (have c6b2 : (l2.length == s0_0.length) = false := by first | simpa using c6 | (simp at c6 ⊢; omega)); (have H' := A0_ H); clear H; (obtain ⟨ASz8_0, cSz8_0, ASz8_4, cSz8_4, HGz8, hgz8, HSz8_0, _⟩ := HI0.out); (have hcz8_0 := cellS84_0 HGz8); (have hcz8_1 := cellS84_1 HGz8); (have hcz8_2 := cellS84_2 HGz8); (have hcz8_3 := cellS84_3 HGz8); (have hcz8_4 := cellS84_4 HGz8); (have hcz8_5 := cellS84_5 HGz8); (have hcz8_6 := cellS84_6 HGz8); (have hfz8_1 := blk_frozen HGz8 1); (have hfz8_2 := blk_frozen HGz8 2); (have hfz8_3 := blk_frozen HGz8 3); (have hfz8_4 := blk_frozen HGz8 4); (have hfz8_5 := blk_frozen HGz8 5); (have hfz8_6 := blk_frozen HGz8 6); clear HGz8 hgz8; (go_enter Try.func78, Try.ntmps78); go_wp2
   go_loopg [6] k (fun kq v6 w' => ∃ (x6_1 : Int) (x1001_1 : Int) (x1002_1 : Int) (x1003_1 : Int) (x1004_1 : List (List (S74))) (x1005_1 : Int) (x1006_1 : Bool), v6 = .int .i64 x6_1 ∧ Aside0 (spec_l30Visit.l0 kq l1 l2 x6_1 s0_0 x1001_1 x1002_1 x1003_1 x1004_1 x1005_1 x1006_1 = some (r1, r2, r3, r4, r5, r6)) ∧ Aside0 (kq ≤ k) ∧ Aside0 (IsS84 w0 w' g s0_0 x1001_1 x1002_1 x1003_1 x1004_1 x1005_1 x1006_1) ∧ Aside0 (KB w w' g none) ∧ Aside0 (Below w0.heap.size w0 w'))
   case atStart => exact ⟨(0), (s0_1), (s0_2), (wrap64 (s0_3 + 1)), (s0_4), (s0_5), (s0_6), (by first | rfl | (simp; done) | (simp [*]; done)), H', ⟨Nat.le_refl _⟩, ⟨by repeat (first | (with_reducible first | exact HI0.out | apply IsV.alloc | apply IsV.drewN | apply IsV.drew | apply IsV.set_3 | apply IsV.set_6) | exact HI0.out)⟩, ⟨by repeat (first | (with_reducible first | exact HK.out | apply KB.set_ | apply kb_drewN | apply kb_drew | apply kb_alloc) | exact HK.out)⟩, ⟨by repeat (first | (with_reducible first | exact HB.out | apply ba_ | apply bn_ | apply bd_ | refine below_set ?_ (IsV.ge HI0.out)) | exact HB.out)⟩⟩
   case round =>
    clear H'; (try clear c1); (try clear c2); (try clear p2); (try clear c4); (try clear c4b0); (try clear c6); (try clear c6b0); (try clear c6b1); (try clear c6b2); (try clear p6); (try clear c7); (try clear hcz5_0 hcz5_1 hcz5_2 hcz5_3 hcz5_4 hcz5_5 hcz5_6); (try clear hcz7_0 hcz7_1 hcz7_2 hcz7_3 hcz7_4 hcz7_5 hcz7_6); (try clear hcz8_0 hcz8_1 hcz8_2 hcz8_3 hcz8_4 hcz8_5 hcz8_6); (try clear hfz5_1 hfz5_2 hfz5_3 hfz5_4 hfz5_5 hfz5_6); (try clear hfz7_1 hfz7_2 hfz7_3 hfz7_4 hfz7_5 hfz7_6); (try clear hfz8_1 hfz8_2 hfz8_3 hfz8_4 hfz8_5 hfz8_6); (obtain ⟨x6_1, x1001_1, x1002_1, x1003_1, x1004_1, x1005_1, x1006_1, rfl, HA, HK1, HI0, HK, HB⟩ := hrel)
    cases gk with
    | zero => exact absurd HA.out (by simp [spec_l30Visit.l0])
    | succ k1 =>
     (have H := HA.out); clear HA; (simp only [spec_l30Visit.l0] at H); (by_cases c9 : x6_1 < (s0_0.length : Int))
     ·(rw [if_pos c9] at H); (have c9b0 : decide (x6_1 < (s0_0.length : Int)) = true := decide_eq_true c9); clear c9; (have H' := A0_ H); clear H; (obtain ⟨ASz10_0, cSz10_0, ASz10_4, cSz10_4, HGz10, hgz10, HSz10_0, _⟩ := HI0.out); (have hcz10_0 := cellS84_0 HGz10); (have hcz10_1 := cellS84_1 HGz10); (have hcz10_2 := cellS84_2 HGz10); (have hcz10_3 := cellS84_3 HGz10); (have hcz10_4 := cellS84_4 HGz10); (have hcz10_5 := cellS84_5 HGz10); (have hcz10_6 := cellS84_6 HGz10); (have hfz10_1 := blk_frozen HGz10 1); (have hfz10_2 := blk_frozen HGz10 2); (have hfz10_3 := blk_frozen HGz10 3); (have hfz10_4 := blk_frozen HGz10 4); (have hfz10_5 := blk_frozen HGz10 5); (have hfz10_6 := blk_frozen HGz10 6); clear HGz10 hgz10; go_wp2
      go_loopg [7, 8] k1 (fun kq v7 v8 w' => ∃ (x7_2 : Bool) (x8_2 : Int), v7 = .bool x7_2 ∧ v8 = .int .i64 x8_2 ∧ Aside0 (spec_l30Visit.l1 kq l1 l2 x6_1 x7_2 x8_2 s0_0 x1001_1 x1002_1 x1003_1 x1004_1 x1005_1 x1006_1 = some (r1, r2, r3, r4, r5, r6)) ∧ Aside0 (kq ≤ k1) ∧ Aside0 (IsS84 w0 w' g s0_0 x1001_1 x1002_1 x1003_1 x1004_1 x1005_1 x1006_1) ∧ Aside0 (KB w w' g none) ∧ Aside0 (Below w0.heap.size w0 w'))
      case atStart => exact ⟨(false), (0), (by first | rfl | (simp; done) | (simp [*]; done)), (by first | rfl | (simp; done) | (simp [*]; done)), H', ⟨Nat.le_refl _⟩, ⟨by repeat (first | (with_reducible first | exact HI0.out | apply IsV.alloc | apply IsV.drewN | apply IsV.drew | apply IsV.set_3 | apply IsV.set_6) | exact HI0.out)⟩, ⟨by repeat (first | (with_reducible first | exact HK.out | apply KB.set_ | apply kb_drewN | apply kb_drew | apply kb_alloc) | exact HK.out)⟩, ⟨by repeat (first | (with_reducible first | exact HB.out | apply ba_ | apply bn_ | apply bd_ | refine below_set ?_ (IsV.ge HI0.out)) | exact HB.out)⟩⟩
      case round =>
       clear H'; (try clear c1); (try clear c2); (try clear p2); (try clear c4); (try clear c4b0); (try clear c6); (try clear c6b0); (try clear c6b1); (try clear c6b2); (try clear p6); (try clear c7); (try clear c9); (try clear c9b0); (try clear hcz10_0 hcz10_1 hcz10_2 hcz10_3 hcz10_4 hcz10_5 hcz10_6); (try clear hcz5_0 hcz5_1 hcz5_2 hcz5_3 hcz5_4 hcz5_5 hcz5_6); (try clear hcz7_0 hcz7_1 hcz7_2 hcz7_3 hcz7_4 hcz7_5 hcz7_6); (try clear hcz8_0 hcz8_1 hcz8_2 hcz8_3 hcz8_4 hcz8_5 hcz8_6); (try clear hfz10_1 hfz10_2 hfz10_3 hfz10_4 hfz10_5 hfz10_6); (try clear hfz5_1 hfz5_2 hfz5_3 hfz5_4 hfz5_5 hfz5_6); (try clear hfz7_1 hfz7_2 hfz7_3 hfz7_4 hfz7_5 hfz7_6); (try clear hfz8_1 hfz8_2 hfz8_3 hfz8_4 hfz8_5 hfz8_6); (try clear p2); (try clear p6); (obtain ⟨x7_2, x8_2, rfl, rfl, HA, HK2, HI0, HK, HB⟩ := hrel)
       cases gk with
       | zero => exact absurd HA.out (by simp [spec_l30Visit.l1])
       | succ k2 =>
        (have H := HA.out); clear HA; (simp only [spec_l30Visit.l1] at H); (by_cases c11 : x8_2 < (l1.length : Int))
        ·(rw [if_pos c11] at H); (have c11b0 : decide (x8_2 < (l1.length : Int)) = true := decide_eq_true c11); clear c11; (by_cases c12 : x7_2 = true)
         ·subst c12; (have H1 : (spec_l30Visit.l1 k2 l1 l2 x6_1 true (wrap64 (x8_2 + 1)) s0_0 x1001_1 x1002_1 x1003_1 x1004_1 x1005_1 x1006_1) = some (r1, r2, r3, r4, r5, r6) := by rw [if_pos rfl] at H; exact H); clear H; (have H := H1); clear H1; (have H' := A0_ H); clear H; go_wp2; (go_roundg k2)
          case measure => have := HK1.out; have := HK2.out; omega
          case rel => exact ⟨(true), (wrap64 (x8_2 + 1)), (by first | rfl | (simp; done) | (simp [*]; done)), (by first | rfl | (simp; done) | (simp [*]; done)), H', ⟨by have := HK1.out; have := HK2.out; omega⟩, ⟨by repeat (first | (with_reducible first | exact HI0.out | apply IsV.alloc | apply IsV.drewN | apply IsV.drew | apply IsV.set_3 | apply IsV.set_6) | exact HI0.out)⟩, ⟨by repeat (first | (with_reducible first | exact HK.out | apply KB.set_ | apply kb_drewN | apply kb_drew | apply kb_alloc) | exact HK.out)⟩, ⟨by repeat (first | (with_reducible first | exact HB.out | apply ba_ | apply bn_ | apply bd_ | refine below_set ?_ (IsV.ge HI0.out)) | exact HB.out)⟩⟩
         ·(replace c12 := Bool.eq_false_iff.mpr c12); subst c12; (have H1 : (if 0 ≤ x8_2 then (spec_l30Visit.l1 k2 l1 l2 x6_1 (((rd_T74 l1 x8_2).f0) == x6_1) (wrap64 (x8_2 + 1)) s0_0 x1001_1 x1002_1 x1003_1 x1004_1 x1005_1 x1006_1) else (none)) = some (r1, r2, r3, r4, r5, r6) := by rw [if_neg (show ¬ (false = true) by decide)] at H; exact H); clear H; (have H := H1); clear H1; (by_cases c13 : 0 ≤ x8_2)
          ·(rw [if_pos c13] at H); (have c13b0 : decide (0 ≤ x8_2) = true := decide_eq_true c13); clear c13; (have H' := A0_ H); clear H; (have p598 : 0 ≤ (x8_2 : Int) := of_decide_eq_true (by first | (with_reducible assumption) | assumption)); (have q598 : x8_2 < (l1.length : Int) := of_decide_eq_true (by first | (with_reducible assumption) | assumption)); (obtain ⟨ad598, e598, hx598_0, hx598_1⟩ := at_T74 (kbC_foot_now HR1.out HK.out) x8_2 p598 q598); (cases e598); (replace p598 := eq_true p598); (replace q598 := eq_true q598); go_wp2; (go_roundg k2)
           case measure => have := HK1.out; have := HK2.out; omega
           case rel => exact ⟨((((rd_T74 l1 x8_2).f0) == x6_1)), (wrap64 (x8_2 + 1)), (by first | rfl | (simp; done) | (simp [*]; done)), (by first | rfl | (simp; done) | (simp [*]; done)), H', ⟨by have := HK1.out; have := HK2.out; omega⟩, ⟨by repeat (first | (with_reducible first | exact HI0.out | apply IsV.alloc | apply IsV.drewN | apply IsV.drew | apply IsV.set_3 | apply IsV.set_6) | exact HI0.out)⟩, ⟨by repeat (first | (with_reducible first | exact HK.out | apply KB.set_ | apply kb_drewN | apply kb_drew | apply kb_alloc) | exact HK.out)⟩, ⟨by repeat (first | (with_reducible first | exact HB.out | apply ba_ | apply bn_ | apply bd_ | refine below_set ?_ (IsV.ge HI0.out)) | exact HB.out)⟩⟩
          ·(rw [if_neg c13] at H); (exact absurd H (by simp))
        ·(rw [if_neg c11] at H); (have c11b0 : decide (x8_2 < (l1.length : Int)) = false := decide_eq_false c11); clear c11; (have H' := A0_ H); clear H; go_wp2
         go_loopg [9] k2 (fun kq v9 w' => ∃ (x9_3 : Int) (x1001_3 : Int) (x1002_3 : Int) (x1003_3 : Int) (x1004_3 : List (List (S74))) (x1005_3 : Int) (x1006_3 : Bool), v9 = .int .i64 x9_3 ∧ Aside0 (spec_l30Visit.l2 kq l1 l2 x6_1 x7_2 x9_3 s0_0 x1001_3 x1002_3 x1003_3 x1004_3 x1005_3 x1006_3 = some (r1, r2, r3, r4, r5, r6)) ∧ Aside0 (kq ≤ k2) ∧ Aside0 (IsS84 w0 w' g s0_0 x1001_3 x1002_3 x1003_3 x1004_3 x1005_3 x1006_3) ∧ Aside0 (KB w w' g none) ∧ Aside0 (Below w0.heap.size w0 w'))
         case atStart => exact ⟨(0), (x1001_1), (x1002_1), (x1003_1), (x1004_1), (x1005_1), (x1006_1), (by first | rfl | (simp; done) | (simp [*]; done)), H', ⟨Nat.le_refl _⟩, ⟨by repeat (first | (with_reducible first | exact HI0.out | apply IsV.alloc | apply IsV.drewN | apply IsV.drew | apply IsV.set_3 | apply IsV.set_6) | exact HI0.out)⟩, ⟨by repeat (first | (with_reducible first | exact HK.out | apply KB.set_ | apply kb_drewN | apply kb_drew | apply kb_alloc) | exact HK.out)⟩, ⟨by repeat (first | (with_reducible first | exact HB.out | apply ba_ | apply bn_ | apply bd_ | refine below_set ?_ (IsV.ge HI0.out)) | exact HB.out)⟩⟩
         case round =>
          clear H'; (try clear c1); (try clear c2); (try clear p2); (try clear c4); (try clear c4b0); (try clear p5); (try clear q5); (try clear hx5); (try clear c6); (try clear c6b0); (try clear c6b1); (try clear c6b2); (try clear p6); (try clear c7); (try clear c9); (try clear c9b0); (try clear c11); (try clear c11b0); (try clear c12); (try clear c13); (try clear c13b0); (try clear hcz10_0 hcz10_1 hcz10_2 hcz10_3 hcz10_4 hcz10_5 hcz10_6); (try clear hcz5_0 hcz5_1 hcz5_2 hcz5_3 hcz5_4 hcz5_5 hcz5_6); (try clear hcz7_0 hcz7_1 hcz7_2 hcz7_3 hcz7_4 hcz7_5 hcz7_6); (try clear hcz8_0 hcz8_1 hcz8_2 hcz8_3 hcz8_4 hcz8_5 hcz8_6); (try clear hfz10_1 hfz10_2 hfz10_3 hfz10_4 hfz10_5 hfz10_6); (try clear hfz5_1 hfz5_2 hfz5_3 hfz5_4 hfz5_5 hfz5_6); (try clear hfz7_1 hfz7_2 hfz7_3 hfz7_4 hfz7_5 hfz7_6); (try clear hfz8_1 hfz8_2 hfz8_3 hfz8_4 hfz8_5 hfz8_6); (try clear hx598_0); (try clear hx598_1); (try clear p2); (try clear p598); (try clear p6); (try clear q598); (obtain ⟨x9_3, x1001_3, x1002_3, x1003_3, x1004_3, x1005_3, x1006_3, rfl, HA, HK3, HI0, HK, HB⟩ := hrel)
          cases gk with
          | zero => exact absurd HA.out (by simp [spec_l30Visit.l2])
          | succ k3 =>
           (have H := HA.out); clear HA; (simp only [spec_l30Visit.l2] at H); (have HC14 := A0_ H); clear H; (go_upto_region 14 with (fail))
           go_cut [97] (fun v97 wc => ∃ (kq : Nat) (x97_13 : Bool), v97 = .bool x97_13 ∧ Aside0 (spec_l30Visit.j3 kq l1 l2 x6_1 x7_2 x9_3 x97_13 s0_0 x1001_3 x1002_3 x1003_3 x1004_3 x1005_3 x1006_3 = some (r1, r2, r3, r4, r5, r6)) ∧ Aside0 (kq ≤ k3) ∧ Aside0 (IsS84 w0 wc g s0_0 x1001_3 x1002_3 x1003_3 x1004_3 x1005_3 x1006_3) ∧ Aside0 (KB w wc g none) ∧ Aside0 (Below w0.heap.size w0 wc))
           case first =>
            (have H := HC14.out); clear HC14; (by_cases c15 : x9_3 < 4)
            ·(rw [if_pos c15] at H); (have c15b0 : decide (x9_3 < 4) = true := decide_eq_true c15); clear c15; ((first | rw [c15b0] | (simp only [i64_w, i32_w]; rw [c15b0]) | skip)); (by_cases c16 : x7_2 = true)
             ·subst c16; (have H1 : (spec_l30Visit.j3 k3 l1 l2 x6_1 true x9_3 false s0_0 x1001_3 x1002_3 x1003_3 x1004_3 x1005_3 x1006_3) = some (r1, r2, r3, r4, r5, r6) := by rw [if_pos rfl] at H; exact H); clear H; (have H := H1); clear H1; (have H' := A0_ H); clear H; (go_wp2; repeat (go_quiet (fail); try go_wp2)); (go_meet)
              case rel => exact ⟨_, (false), (by first | rfl | (simp; done) | (simp [*]; done)), H', ⟨by have := HK1.out; have := HK2.out; have := HK3.out; first | omega | exact Nat.le_refl _⟩, ⟨by repeat (first | (with_reducible first | exact HI0.out | apply IsV.alloc | apply IsV.drewN | apply IsV.drew | apply IsV.set_3 | apply IsV.set_6) | exact HI0.out)⟩, ⟨by repeat (first | (with_reducible first | exact HK.out | apply KB.set_ | apply kb_drewN | apply kb_drew | apply kb_alloc) | exact HK.out)⟩, ⟨by repeat (first | (with_reducible first | exact HB.out | apply ba_ | apply bn_ | apply bd_ | refine below_set ?_ (IsV.ge HI0.out)) | exact HB.out)⟩⟩
             ·(replace c16 := Bool.eq_false_iff.mpr c16); subst c16; (have H1 : (if x1006_3 = true then (spec_l30Visit.j3 k3 l1 l2 x6_1 false x9_3 false s0_0 x1001_3 x1002_3 x1003_3 x1004_3 x1005_3 x1006_3) else (spec_l30Visit.j3 k3 l1 l2 x6_1 false x9_3 (decide ((x1004_3.length : Int) < x1005_3)) s0_0 x1001_3 x1002_3 x1003_3 x1004_3 x1005_3 x1006_3)) = some (r1, r2, r3, r4, r5, r6) := by rw [if_neg (show ¬ (false = true) by decide)] at H; exact H); clear H; (have H := H1); clear H1; (by_cases c17 : x1006_3 = true)
              ·subst c17; (have H1 : (spec_l30Visit.j3 k3 l1 l2 x6_1 false x9_3 false s0_0 x1001_3 x1002_3 x1003_3 x1004_3 x1005_3 true) = some (r1, r2, r3, r4, r5, r6) := by rw [if_pos rfl] at H; exact H); clear H; (have H := H1); clear H1; (have H' := A0_ H); clear H; (obtain ⟨ASz18_0, cSz18_0, ASz18_4, cSz18_4, HGz18, hgz18, HSz18_0, _⟩ := HI0.out); (have hcz18_0 := cellS84_0 HGz18); (have hcz18_1 := cellS84_1 HGz18); (have hcz18_2 := cellS84_2 HGz18); (have hcz18_3 := cellS84_3 HGz18); (have hcz18_4 := cellS84_4 HGz18); (have hcz18_5 := cellS84_5 HGz18); (have hcz18_6 := cellS84_6 HGz18); (have hfz18_1 := blk_frozen HGz18 1); (have hfz18_2 := blk_frozen HGz18 2); (have hfz18_3 := blk_frozen HGz18 3); (have hfz18_4 := blk_frozen HGz18 4); (have hfz18_5 := blk_frozen HGz18 5); (have hfz18_6 := blk_frozen HGz18 6); clear HGz18 hgz18; (go_wp2; repeat (go_quiet (fail); try go_wp2)); (go_meet)
               case rel => exact ⟨_, (false), (by first | rfl | (simp; done) | (simp [*]; done)), H', ⟨by have := HK1.out; have := HK2.out; have := HK3.out; first | omega | exact Nat.le_refl _⟩, ⟨by repeat (first | (with_reducible first | exact HI0.out | apply IsV.alloc | apply IsV.drewN | apply IsV.drew | apply IsV.set_3 | apply IsV.set_6) | exact HI0.out)⟩, ⟨by repeat (first | (with_reducible first | exact HK.out | apply KB.set_ | apply kb_drewN | apply kb_drew | apply kb_alloc) | exact HK.out)⟩, ⟨by repeat (first | (with_reducible first | exact HB.out | apply ba_ | apply bn_ | apply bd_ | refine below_set ?_ (IsV.ge HI0.out)) | exact HB.out)⟩⟩
              ·(replace c17 := Bool.eq_false_iff.mpr c17); subst c17; (have H1 : (spec_l30Visit.j3 k3 l1 l2 x6_1 false x9_3 (decide ((x1004_3.length : Int) < x1005_3)) s0_0 x1001_3 x1002_3 x1003_3 x1004_3 x1005_3 false) = some (r1, r2, r3, r4, r5, r6) := by rw [if_neg (show ¬ (false = true) by decide)] at H; exact H); clear H; (have H := H1); clear H1; (have H' := A0_ H); clear H; (obtain ⟨ASz19_0, cSz19_0, ASz19_4, cSz19_4, HGz19, hgz19, HSz19_0, _⟩ := HI0.out); (have hcz19_0 := cellS84_0 HGz19); (have hcz19_1 := cellS84_1 HGz19); (have hcz19_2 := cellS84_2 HGz19); (have hcz19_3 := cellS84_3 HGz19); (have hcz19_4 := cellS84_4 HGz19); (have hcz19_5 := cellS84_5 HGz19); (have hcz19_6 := cellS84_6 HGz19); (have hfz19_1 := blk_frozen HGz19 1); (have hfz19_2 := blk_frozen HGz19 2); (have hfz19_3 := blk_frozen HGz19 3); (have hfz19_4 := blk_frozen HGz19 4); (have hfz19_5 := blk_frozen HGz19 5); (have hfz19_6 := blk_frozen HGz19 6); clear HGz19 hgz19; (go_wp2; repeat (go_quiet (fail); try go_wp2)); (go_meet)
               case rel => exact ⟨_, (decide ((x1004_3.length : Int) < x1005_3)), (by first | rfl | (simp; done) | (simp [*]; done)), H', ⟨by have := HK1.out; have := HK2.out; have := HK3.out; first | omega | exact Nat.le_refl _⟩, ⟨by repeat (first | (with_reducible first | exact HI0.out | apply IsV.alloc | apply IsV.drewN | apply IsV.drew | apply IsV.set_3 | apply IsV.set_6) | exact HI0.out)⟩, ⟨by repeat (first | (with_reducible first | exact HK.out | apply KB.set_ | apply kb_drewN | apply kb_drew | apply kb_alloc) | exact HK.out)⟩, ⟨by repeat (first | (with_reducible first | exact HB.out | apply ba_ | apply bn_ | apply bd_ | refine below_set ?_ (IsV.ge HI0.out)) | exact HB.out)⟩⟩
            ·(rw [if_neg c15] at H); (have c15b0 : decide (x9_3 < 4) = false := decide_eq_false c15); clear c15; ((first | rw [c15b0] | (simp only [i64_w, i32_w]; rw [c15b0]) | skip)); (have H' := A0_ H); clear H; (go_wp2; repeat (go_quiet (fail); try go_wp2)); (go_meet)
             case rel => exact ⟨_, (false), (by first | rfl | (simp; done) | (simp [*]; done)), H', ⟨by have := HK1.out; have := HK2.out; have := HK3.out; first | omega | exact Nat.le_refl _⟩, ⟨by repeat (first | (with_reducible first | exact HI0.out | apply IsV.alloc | apply IsV.drewN | apply IsV.drew | apply IsV.set_3 | apply IsV.set_6) | exact HI0.out)⟩, ⟨by repeat (first | (with_reducible first | exact HK.out | apply KB.set_ | apply kb_drewN | apply kb_drew | apply kb_alloc) | exact HK.out)⟩, ⟨by repeat (first | (with_reducible first | exact HB.out | apply ba_ | apply bn_ | apply bd_ | refine below_set ?_ (IsV.ge HI0.out)) | exact HB.out)⟩⟩
           case rest =>
            clear HC14; (try clear c1); (try clear c2); (try clear p2); (try clear c4); (try clear c4b0); (try clear p5); (try clear q5); (try clear hx5); (try clear c6); (try clear c6b0); (try clear c6b1); (try clear c6b2); (try clear p6); (try clear c7); (try clear c9); (try clear c9b0); (try clear c11); (try clear c11b0); (try clear c12); (try clear c13); (try clear c13b0); (try clear c15); (try clear c15b0); (try clear c16); (try clear c17); (try clear hcz10_0 hcz10_1 hcz10_2 hcz10_3 hcz10_4 hcz10_5 hcz10_6); (try clear hcz18_0 hcz18_1 hcz18_2 hcz18_3 hcz18_4 hcz18_5 hcz18_6); (try clear hcz19_0 hcz19_1 hcz19_2 hcz19_3 hcz19_4 hcz19_5 hcz19_6); (try clear hcz5_0 hcz5_1 hcz5_2 hcz5_3 hcz5_4 hcz5_5 hcz5_6); (try clear hcz7_0 hcz7_1 hcz7_2 hcz7_3 hcz7_4 hcz7_5 hcz7_6); (try clear hcz8_0 hcz8_1 hcz8_2 hcz8_3 hcz8_4 hcz8_5 hcz8_6); (try clear hfz10_1 hfz10_2 hfz10_3 hfz10_4 hfz10_5 hfz10_6); (try clear hfz18_1 hfz18_2 hfz18_3 hfz18_4 hfz18_5 hfz18_6); (try clear hfz19_1 hfz19_2 hfz19_3 hfz19_4 hfz19_5 hfz19_6); (try clear hfz5_1 hfz5_2 hfz5_3 hfz5_4 hfz5_5 hfz5_6); (try clear hfz7_1 hfz7_2 hfz7_3 hfz7_4 hfz7_5 hfz7_6); (try clear hfz8_1 hfz8_2 hfz8_3 hfz8_4 hfz8_5 hfz8_6); (try clear hx598_0); (try clear hx598_1); (try clear p2); (try clear p5); (try clear p598); (try clear p6); (try clear q5); (try clear q598); (obtain ⟨kq, x97_13, rfl, HA, HJ13, HI0, HK, HB⟩ := hcut)
            cases kq with
            | zero => exact absurd HA.out (by simp [spec_l30Visit.j3])
            | succ kj13 =>
             (have H := HA.out); clear HA; (simp only [spec_l30Visit.j3] at H); (by_cases c20 : x97_13 = true)
             ·subst c20
              have H1 : (if 0 ≤ x6_1 then (if x6_1 < (s0_0.length : Int) then ((spec_l30Turn.f ((rd_T24 s0_0 x6_1).f0) ((rd_T24 s0_0 x6_1).f1) ((rd_T24 s0_0 x6_1).f2) ((rd_T24 s0_0 x6_1).f3) x9_3).bind fun bt600 => (spec_l30Visit.l3 kj13 l1 l2 x6_1 x7_2 x9_3 false 0 s0_0 x1001_3 x1002_3 x1003_3 x1004_3 x1005_3 x1006_3 bt600.1 bt600.2.1 bt600.2.2.1 bt600.2.2.2)) else (none)) else (none)) = some (r1, r2, r3, r4, r5, r6) := by rw [if_pos rfl] at H; exact H
              clear H; (have H := H1); clear H1; (by_cases c21 : 0 ≤ x6_1)
              ·(rw [if_pos c21] at H); (have c21b0 : decide (0 ≤ x6_1) = true := decide_eq_true c21); clear c21; (by_cases c22 : x6_1 < (s0_0.length : Int))
               ·(rw [if_pos c22] at H); (have c22b0 : decide (x6_1 < (s0_0.length : Int)) = true := decide_eq_true c22); clear c22; (replace H := Option.bind_eq_some_iff.mp H); (obtain ⟨⟨t600, t601, t602, t603⟩, A230, H⟩ := H); (replace H : (spec_l30Visit.l3 kj13 l1 l2 x6_1 x7_2 x9_3 false 0 s0_0 x1001_3 x1002_3 x1003_3 x1004_3 x1005_3 x1006_3 t600 t601 t602 t603) = some (r1, r2, r3, r4, r5, r6) := H); (have A23 := A0_ A230); clear A230; (have H' := A0_ H); clear H; (obtain ⟨ASz24_0, cSz24_0, ASz24_4, cSz24_4, HGz24, hgz24, HSz24_0, _⟩ := HI0.out); (have hcz24_0 := cellS84_0 HGz24); (have hcz24_1 := cellS84_1 HGz24); (have hcz24_2 := cellS84_2 HGz24); (have hcz24_3 := cellS84_3 HGz24); (have hcz24_4 := cellS84_4 HGz24); (have hcz24_5 := cellS84_5 HGz24); (have hcz24_6 := cellS84_6 HGz24); (have hfz24_1 := blk_frozen HGz24 1); (have hfz24_2 := blk_frozen HGz24 2); (have hfz24_3 := blk_frozen HGz24 3); (have hfz24_4 := blk_frozen HGz24 4); (have hfz24_5 := blk_frozen HGz24 5); (have hfz24_6 := blk_frozen HGz24 6); clear HGz24 hgz24; (have p599 : 0 ≤ (x6_1 : Int) := of_decide_eq_true (by first | (with_reducible assumption) | assumption)); (have q599 : x6_1 < (s0_0.length : Int) := of_decide_eq_true (by first | (with_reducible assumption) | assumption)); (obtain ⟨ad599, e599, hx599_0, hx599_1, hx599_2, hx599_3⟩ := at_T24 HSz24_0 x6_1 p599 q599); (cases e599); (replace hx599_0 := pw_cell_below HB.out hx599_0); (replace hx599_1 := pw_cell_below HB.out hx599_1); (replace hx599_2 := pw_cell_below HB.out hx599_2); (replace hx599_3 := pw_cell_below HB.out hx599_3); (replace p599 := eq_true p599); (replace q599 := eq_true q599); (go_wp2_with (first | ((with_reducible refine gate_callee (f := 51) rfl ?_); refine goesL_ (some 108) rfl rfl Try.func51 (by kernel_rfl) rfl #[.agg #[.int .i64 ((rd_T24 s0_0 x6_1).f0), .int .i64 ((rd_T24 s0_0 x6_1).f1), .int .i64 ((rd_T24 s0_0 x6_1).f2), .int .i64 ((rd_T24 s0_0 x6_1).f3)], .int .i64 x9_3] rfl (by (try simp only [List.map_toArray, List.map_cons, List.map_nil]); first | done | rfl | (simp only [List.length_drop, List.length_take]; rfl)) ?_; (with_reducible refine (spec_l30Turn.calls ((rd_T24 s0_0 x6_1).f0) ((rd_T24 s0_0 x6_1).f1) ((rd_T24 s0_0 x6_1).f2) ((rd_T24 s0_0 x6_1).f3) x9_3 t600 t601 t602 t603 _ A23.out).mono ?_); rintro e w25 ⟨rfl, hb⟩; refine ⟨_, rfl, ?_⟩; have n0_ := A0_ (IsV.below (by repeat (first | (with_reducible first | exact HI0.out | apply IsV.alloc | apply IsV.drewN | apply IsV.drew | apply IsV.set_3 | apply IsV.set_6) | exact HI0.out)) hb); have n1_ := A0_ (KB.trans (by repeat (first | (with_reducible first | exact HK.out | apply KB.set_ | apply kb_drewN | apply kb_drew | apply kb_alloc) | exact HK.out)) (KeepBut.of_below hb g none) (.inl rfl)); have n2_ := A0_ (below_step (by repeat (first | (with_reducible first | exact HB.out | apply ba_ | apply bn_ | apply bd_ | refine below_set ?_ (IsV.ge HI0.out)) | exact HB.out)) hb); clear HI0; clear HK; clear HB; have HI0 := n0_; have HK := n1_; have HB := n2_; clear n0_ n1_ n2_; (try clear hb); (try clear hb2); (try clear hk); (try clear hi)) | ((with_reducible refine gate_dst (N := 10) rfl ?_); refine box_event ?hg (N := 10) ?hd (cs := #[.int .i64 0, .int .i64 0, .int .i64 0, .int .i64 0]) (t := 24) ?hr ?_; (case hd => rfl); (case hg => rfl); (case hr => first | (go_simp; done) | (go_simp; rfl)); intro gb604 hg w26 hbox hb; have n0_ := A0_ (IsV.below (by repeat (first | (with_reducible first | exact HI0.out | apply IsV.alloc | apply IsV.drewN | apply IsV.drew | apply IsV.set_3 | apply IsV.set_6) | exact HI0.out)) hb); have n1_ := A0_ (KB.trans (by repeat (first | (with_reducible first | exact HK.out | apply KB.set_ | apply kb_drewN | apply kb_drew | apply kb_alloc) | exact HK.out)) (KeepBut.of_below hb g none) (.inl rfl)); have n2_ := A0_ (below_step (by repeat (first | (with_reducible first | exact HB.out | apply ba_ | apply bn_ | apply bd_ | refine below_set ?_ (IsV.ge HI0.out)) | exact HB.out)) hb); have n3_ := A0_ (hbox); have n4_ := A0_ ((by rw [hg]; exact (kb_size (w := w) (g := g) (row := none) (by repeat (first | (with_reducible first | exact HK.out | apply KB.set_ | apply kb_drewN | apply kb_drew | apply kb_alloc) | exact HK.out))) : w.heap.size ≤ gb604)); have n5_ := A0_ ((Nat.le_trans HW0.out (by rw [hg]; exact (kb_size (w := w) (g := g) (row := none) (by repeat (first | (with_reducible first | exact HK.out | apply KB.set_ | apply kb_drewN | apply kb_drew | apply kb_alloc) | exact HK.out))) : w.heap.size ≤ gb604) : w0.heap.size ≤ gb604)); have n6_ := A0_ ((by rw [hg]; exact Nat.ne_of_lt (IsV.lt (show IsS84 w0 _ g s0_0 x1001_3 x1002_3 x1003_3 x1004_3 x1005_3 x1006_3 from by repeat (first | (with_reducible first | exact HI0.out | apply IsV.alloc | apply IsV.drewN | apply IsV.drew | apply IsV.set_3 | apply IsV.set_6) | exact HI0.out))) : g ≠ gb604)); have n7_ := A0_ ((by rw [hg]; exact Nat.ne_of_gt (IsV.lt (show IsS84 w0 _ g s0_0 x1001_3 x1002_3 x1003_3 x1004_3 x1005_3 x1006_3 from by repeat (first | (with_reducible first | exact HI0.out | apply IsV.alloc | apply IsV.drewN | apply IsV.drew | apply IsV.set_3 | apply IsV.set_6) | exact HI0.out))) : gb604 ≠ g)); clear HI0; clear HK; clear HB; have HI0 := n0_; have HK := n1_; have HB := n2_; have BK604 := n3_; have GW604 := n4_; have GE604 := n5_; have NB0_604 := n6_; have NB604_0 := n7_; clear n0_ n1_ n2_ n3_ n4_ n5_ n6_ n7_; clear hb hbox hg; have hnb27 := NB604_0.out; have hnc27 := NB0_604.out; have hcz28_0 : w26.cell? ⟨gb604, 0, none⟩ = some (.int .i64 0) := (blk_cell BK604.out 0).trans rfl; have hcz28_1 : w26.cell? ⟨gb604, 1, none⟩ = some (.int .i64 0) := (blk_cell BK604.out 1).trans rfl; have hcz28_2 : w26.cell? ⟨gb604, 2, none⟩ = some (.int .i64 0) := (blk_cell BK604.out 2).trans rfl; have hcz28_3 : w26.cell? ⟨gb604, 3, none⟩ = some (.int .i64 0) := (blk_cell BK604.out 3).trans rfl; have hfz28_0 := blk_frozen BK604.out 0; have hfz28_1 := blk_frozen BK604.out 1; have hfz28_2 := blk_frozen BK604.out 2; have hfz28_3 := blk_frozen BK604.out 3)))
                go_loopg [11, 12] kj13 (fun kq v11 v12 w' => ∃ (x11_5 : Bool) (x12_5 : Int), v11 = .bool x11_5 ∧ v12 = .int .i64 x12_5 ∧ Aside0 (spec_l30Visit.l3 kq l1 l2 x6_1 x7_2 x9_3 x11_5 x12_5 s0_0 x1001_3 x1002_3 x1003_3 x1004_3 x1005_3 x1006_3 t600 t601 t602 t603 = some (r1, r2, r3, r4, r5, r6)) ∧ Aside0 (kq ≤ kj13) ∧ Aside0 (w'.heap[gb604]? = some (.cells #[.int .i64 t600, .int .i64 t601, .int .i64 t602, .int .i64 t603] 24 (0, 0))) ∧ Aside0 (IsS84 w0 w' g s0_0 x1001_3 x1002_3 x1003_3 x1004_3 x1005_3 x1006_3) ∧ Aside0 (KB w w' g none) ∧ Aside0 (Below w0.heap.size w0 w'))
                case atStart => exact ⟨(false), (0), (by first | rfl | (simp; done) | (simp [*]; done)), (by first | rfl | (simp; done) | (simp [*]; done)), H', ⟨Nat.le_refl _⟩, ⟨by (with_reducible repeat (first | apply gn_ | apply gd_ | apply ga_)); refine blk_put (cs := #[.int .i64 t600, .int .i64 t601, .int .i64 t602, .int .i64 0]) ?_ 3 _ rfl; (with_reducible repeat (first | apply gn_ | apply gd_ | apply ga_)); refine blk_put (cs := #[.int .i64 t600, .int .i64 t601, .int .i64 0, .int .i64 0]) ?_ 2 _ rfl; (with_reducible repeat (first | apply gn_ | apply gd_ | apply ga_)); refine blk_put (cs := #[.int .i64 t600, .int .i64 0, .int .i64 0, .int .i64 0]) ?_ 1 _ rfl; (with_reducible repeat (first | apply gn_ | apply gd_ | apply ga_)); refine blk_put (cs := #[.int .i64 0, .int .i64 0, .int .i64 0, .int .i64 0]) ?_ 0 _ rfl; (with_reducible repeat (first | apply gn_ | apply gd_ | apply ga_)); exact BK604.out⟩, ⟨by repeat (first | (with_reducible first | exact HI0.out | apply IsV.alloc | apply IsV.drewN | apply IsV.drew | apply IsV.set_3 | apply IsV.set_6 | refine IsV.store4 ?_ NB0_604.out BK604.out (by decide) (by decide) _ _ _ _) | exact HI0.out)⟩, ⟨by repeat (first | (with_reducible first | exact HK.out | apply KB.set_ | apply kb_drewN | apply kb_drew | apply kb_alloc | refine kb_far ?_ GW604.out _) | exact HK.out)⟩, ⟨by repeat (first | (with_reducible first | exact HB.out | apply ba_ | apply bn_ | apply bd_ | refine below_set ?_ (IsV.ge HI0.out) | refine below_set ?_ GE604.out) | exact HB.out)⟩⟩
                case round =>
                 clear H'; (try clear c1); (try clear c2); (try clear p2); (try clear c4); (try clear c4b0); (try clear c5); (try clear p5); (try clear q5); (try clear hx5); (try clear c6); (try clear c6b0); (try clear c6b1); (try clear c6b2); (try clear p6); (try clear c7); (try clear c9); (try clear c9b0); (try clear c11); (try clear c11b0); (try clear c12); (try clear c13); (try clear c13b0); (try clear c15); (try clear c15b0); (try clear c16); (try clear c17); (try clear c20); (try clear c21); (try clear c21b0); (try clear c22); (try clear c22b0); (try clear c27); (try clear hcz10_0 hcz10_1 hcz10_2 hcz10_3 hcz10_4 hcz10_5 hcz10_6); (try clear hcz18_0 hcz18_1 hcz18_2 hcz18_3 hcz18_4 hcz18_5 hcz18_6); (try clear hcz19_0 hcz19_1 hcz19_2 hcz19_3 hcz19_4 hcz19_5 hcz19_6); (try clear hcz24_0 hcz24_1 hcz24_2 hcz24_3 hcz24_4 hcz24_5 hcz24_6); (try clear hcz28_0 hcz28_1 hcz28_2 hcz28_3); (try clear hcz5_0 hcz5_1 hcz5_2 hcz5_3 hcz5_4 hcz5_5 hcz5_6); (try clear hcz7_0 hcz7_1 hcz7_2 hcz7_3 hcz7_4 hcz7_5 hcz7_6); (try clear hcz8_0 hcz8_1 hcz8_2 hcz8_3 hcz8_4 hcz8_5 hcz8_6); (try clear hfz10_1 hfz10_2 hfz10_3 hfz10_4 hfz10_5 hfz10_6); (try clear hfz18_1 hfz18_2 hfz18_3 hfz18_4 hfz18_5 hfz18_6); (try clear hfz19_1 hfz19_2 hfz19_3 hfz19_4 hfz19_5 hfz19_6); (try clear hfz24_1 hfz24_2 hfz24_3 hfz24_4 hfz24_5 hfz24_6); (try clear hfz28_0 hfz28_1 hfz28_2 hfz28_3); (try clear hfz5_1 hfz5_2 hfz5_3 hfz5_4 hfz5_5 hfz5_6); (try clear hfz7_1 hfz7_2 hfz7_3 hfz7_4 hfz7_5 hfz7_6); (try clear hfz8_1 hfz8_2 hfz8_3 hfz8_4 hfz8_5 hfz8_6); (try clear hx598_0); (try clear hx598_1); (try clear hx599_0); (try clear hx599_1); (try clear hx599_2); (try clear hx599_3); (try clear p2); (try clear p5); (try clear p598); (try clear p599); (try clear p6); (try clear q5); (try clear q598); (try clear q599); (obtain ⟨x11_5, x12_5, rfl, rfl, HA, HK5, BK604, HI0, HK, HB⟩ := hrel)
                 cases gk with
                 | zero => exact absurd HA.out (by simp [spec_l30Visit.l3])
                 | succ k5 =>
                  (have H := HA.out); clear HA; (simp only [spec_l30Visit.l3] at H); (by_cases c29 : x12_5 < x9_3)
                  ·(rw [if_pos c29] at H); (have c29b0 : decide (x12_5 < x9_3) = true := decide_eq_true c29); clear c29; (by_cases c30 : x11_5 = true)
                   ·subst c30; (have H1 : (spec_l30Visit.l3 k5 l1 l2 x6_1 x7_2 x9_3 true (wrap64 (x12_5 + 1)) s0_0 x1001_3 x1002_3 x1003_3 x1004_3 x1005_3 x1006_3 t600 t601 t602 t603) = some (r1, r2, r3, r4, r5, r6) := by rw [if_pos rfl] at H; exact H); clear H; (have H := H1); clear H1; (have H' := A0_ H); clear H; (go_wp2; repeat (go_quiet (fail); try go_wp2)); (go_roundg k5)
                    case measure => have := HK1.out; have := HK2.out; have := HK3.out; have := HJ13.out; have := HK5.out; omega
                    case rel => exact ⟨(true), (wrap64 (x12_5 + 1)), (by first | rfl | (simp; done) | (simp [*]; done)), (by first | rfl | (simp; done) | (simp [*]; done)), H', ⟨by have := HK1.out; have := HK2.out; have := HK3.out; have := HJ13.out; have := HK5.out; omega⟩, ⟨by (with_reducible repeat (first | apply gn_ | apply gd_ | apply ga_)); exact BK604.out⟩, ⟨by repeat (first | (with_reducible first | exact HI0.out | apply IsV.alloc | apply IsV.drewN | apply IsV.drew | apply IsV.set_3 | apply IsV.set_6 | refine IsV.store4 ?_ NB0_604.out BK604.out (by decide) (by decide) _ _ _ _) | exact HI0.out)⟩, ⟨by repeat (first | (with_reducible first | exact HK.out | apply KB.set_ | apply kb_drewN | apply kb_drew | apply kb_alloc | refine kb_far ?_ GW604.out _) | exact HK.out)⟩, ⟨by repeat (first | (with_reducible first | exact HB.out | apply ba_ | apply bn_ | apply bd_ | refine below_set ?_ (IsV.ge HI0.out) | refine below_set ?_ GE604.out) | exact HB.out)⟩⟩
                   ·(replace c30 := Bool.eq_false_iff.mpr c30); subst c30
                    have H1 : (if 0 ≤ x6_1 then (if x6_1 < (s0_0.length : Int) then ((spec_l30Turn.f ((rd_T24 s0_0 x6_1).f0) ((rd_T24 s0_0 x6_1).f1) ((rd_T24 s0_0 x6_1).f2) ((rd_T24 s0_0 x6_1).f3) x12_5).bind fun bt606 => (spec_l30Visit.l3 k5 l1 l2 x6_1 x7_2 x9_3 (bt606.1 == t600 && (bt606.2.1 == t601 && (bt606.2.2.1 == t602 && (bt606.2.2.2 == t603)))) (wrap64 (x12_5 + 1)) s0_0 x1001_3 x1002_3 x1003_3 x1004_3 x1005_3 x1006_3 t600 t601 t602 t603)) else (none)) else (none)) = some (r1, r2, r3, r4, r5, r6) := by rw [if_neg (show ¬ (false = true) by decide)] at H; exact H
                    clear H; (have H := H1); clear H1; (by_cases c31 : 0 ≤ x6_1)
                    ·(rw [if_pos c31] at H); (have c31b0 : decide (0 ≤ x6_1) = true := decide_eq_true c31); clear c31; (by_cases c32 : x6_1 < (s0_0.length : Int))
                     ·(rw [if_pos c32] at H); (have c32b0 : decide (x6_1 < (s0_0.length : Int)) = true := decide_eq_true c32); clear c32; (replace H := Option.bind_eq_some_iff.mp H); (obtain ⟨⟨t606, t607, t608, t609⟩, A330, H⟩ := H); (replace H : (spec_l30Visit.l3 k5 l1 l2 x6_1 x7_2 x9_3 (t606 == t600 && (t607 == t601 && (t608 == t602 && (t609 == t603)))) (wrap64 (x12_5 + 1)) s0_0 x1001_3 x1002_3 x1003_3 x1004_3 x1005_3 x1006_3 t600 t601 t602 t603) = some (r1, r2, r3, r4, r5, r6) := H); (have A33 := A0_ A330); clear A330; (have H' := A0_ H); clear H; (obtain ⟨ASz34_0, cSz34_0, ASz34_4, cSz34_4, HGz34, hgz34, HSz34_0, _⟩ := HI0.out); (have hcz34_0 := cellS84_0 HGz34); (have hcz34_1 := cellS84_1 HGz34); (have hcz34_2 := cellS84_2 HGz34); (have hcz34_3 := cellS84_3 HGz34); (have hcz34_4 := cellS84_4 HGz34); (have hcz34_5 := cellS84_5 HGz34); (have hcz34_6 := cellS84_6 HGz34); (have hfz34_1 := blk_frozen HGz34 1); (have hfz34_2 := blk_frozen HGz34 2); (have hfz34_3 := blk_frozen HGz34 3); (have hfz34_4 := blk_frozen HGz34 4); (have hfz34_5 := blk_frozen HGz34 5); (have hfz34_6 := blk_frozen HGz34 6); clear HGz34 hgz34; (have p605 : 0 ≤ (x6_1 : Int) := of_decide_eq_true (by first | (with_reducible assumption) | assumption)); (have q605 : x6_1 < (s0_0.length : Int) := of_decide_eq_true (by first | (with_reducible assumption) | assumption)); (obtain ⟨ad605, e605, hx605_0, hx605_1, hx605_2, hx605_3⟩ := at_T24 HSz34_0 x6_1 p605 q605); (cases e605); (replace hx605_0 := pw_cell_below HB.out hx605_0); (replace hx605_1 := pw_cell_below HB.out hx605_1); (replace hx605_2 := pw_cell_below HB.out hx605_2); (replace hx605_3 := pw_cell_below HB.out hx605_3); (replace p605 := eq_true p605); (replace q605 := eq_true q605); go_wp2; (have n0_ := A0_ (blk_drew BK604.out)); (have n1_ := A0_ (IsV.drew HI0.out)); (have n2_ := A0_ (kb_drew HK.out)); (have n3_ := A0_ (below_drew1 HB.out)); clear BK604 HI0 HK HB; (have BK604 := n0_); (have HI0 := n1_); (have HK := n2_); (have HB := n3_); clear n0_ n1_ n2_ n3_
                      refine start_ (n := 15) (S := fun w' => w'.cell? ⟨g, 0, none⟩ = some (.slice (some ad605) s0_0.length cSz34_0) ∧ w'.cell? (ad605.add ((x6_1).toNat * 4)) = some (.int .i64 ((rd_T24 s0_0 x6_1).f0)) ∧ w'.cell? ⟨(ad605.add ((x6_1).toNat * 4)).block, (ad605.add ((x6_1).toNat * 4)).off + 1, none⟩ = some (.int .i64 ((rd_T24 s0_0 x6_1).f1)) ∧ w'.cell? ⟨(ad605.add ((x6_1).toNat * 4)).block, (ad605.add ((x6_1).toNat * 4)).off + 2, none⟩ = some (.int .i64 ((rd_T24 s0_0 x6_1).f2)) ∧ w'.cell? ⟨(ad605.add ((x6_1).toNat * 4)).block, (ad605.add ((x6_1).toNat * 4)).off + 3, none⟩ = some (.int .i64 ((rd_T24 s0_0 x6_1).f3)) ∧ w'.cell? ⟨gb604, 0, none⟩ = some (.int .i64 t600) ∧ w'.cell? ⟨gb604, 1, none⟩ = some (.int .i64 t601) ∧ w'.cell? ⟨gb604, 2, none⟩ = some (.int .i64 t602) ∧ w'.cell? ⟨gb604, 3, none⟩ = some (.int .i64 t603)) (ds := []) #[ff,ff,ff,ff,ff,ff,ff,ff,ff,ff,ff,ff,ff,ff,ff] (by kernel_rfl) rfl rfl ⟨hcz34_0, hx605_0, hx605_1, hx605_2, hx605_3, (blk_cell BK604.out 0).trans rfl, (blk_cell BK604.out 1).trans rfl, (blk_cell BK604.out 2).trans rfl, (blk_cell BK604.out 3).trans rfl⟩ (fun hHeld => ?_)
                      refine with_tabW spec_l30Visit.tab21 spec_l30Visit.bits21 (fun HT_ HW_ => ?_)
                      refine pure_ (i := 0) (N := some 114) (v := ?_) (a' := ?_) #[tt,ff,ff,ff,ff,ff,ff,ff,ff,ff,ff,ff,ff,ff,ff] rfl rfl (any_of HT_.out (by kernel_rfl)) (fun _ _ _ h => h) (Or.inl ⟨by rfl, ?_⟩) ?_ ?_
                      rotate_left
                      ·intro w'; go_simp; with_reducible rfl
                      rotate_left
                      ·(simp only [Act.put, sia_, sz_, ss_, i64_w, i32_w]); rfl
                      refine pure_ (i := 1) (N := some 115) (v := ?_) (a' := ?_) #[tt,tt,ff,ff,ff,ff,ff,ff,ff,ff,ff,ff,ff,ff,ff] rfl rfl (any_of HT_.out (by kernel_rfl)) (fun _ _ _ h => h) (Or.inl ⟨by rfl, ?_⟩) ?_ ?_
                      rotate_left
                      ·intro w'; go_simp; with_reducible rfl
                      rotate_left
                      ·(simp only [Act.put, sia_, sz_, ss_, i64_w, i32_w]); rfl
                      refine pure_ (i := 2) (N := some 116) (v := ?_) (a' := ?_) #[tt,tt,tt,ff,ff,ff,ff,ff,ff,ff,ff,ff,ff,ff,ff] rfl rfl (any_of HT_.out (by kernel_rfl)) (fun _ _ _ h => h) (Or.inl ⟨by rfl, ?_⟩) ?_ ?_
                      rotate_left
                      ·intro w'; go_simp; with_reducible rfl
                      rotate_left
                      ·(simp only [Act.put, sia_, sz_, ss_, i64_w, i32_w]); rfl
                      refine pure_ (i := 3) (N := some 117) (v := ?_) (a' := ?_) #[tt,tt,tt,tt,ff,ff,ff,ff,ff,ff,ff,ff,ff,ff,ff] rfl rfl (any_of HT_.out (by kernel_rfl)) (fun _ _ _ h => h) (Or.inl ⟨by rfl, ?_⟩) ?_ ?_
                      rotate_left
                      ·intro w'; go_simp; with_reducible rfl
                      rotate_left
                      ·(simp only [Act.put, sia_, sz_, ss_, i64_w, i32_w]); rfl
                      refine pure_ (i := 4) (N := some 118) (v := ?_) (a' := ?_) #[tt,tt,tt,tt,tt,ff,ff,ff,ff,ff,ff,ff,ff,ff,ff] rfl rfl (any_of HT_.out (by kernel_rfl)) (fun _ _ _ h => h) (Or.inl ⟨by rfl, ?_⟩) ?_ ?_
                      rotate_left
                      ·intro w'; go_simp; with_reducible rfl
                      rotate_left
                      ·(simp only [Act.put, sia_, sz_, ss_, i64_w, i32_w]); rfl
                      refine take_ (i := 5) (N := some 119) (v := ?_) (a' := ?_) #[tt,tt,tt,tt,tt,tt,ff,ff,ff,ff,ff,ff,ff,ff,ff] rfl rfl (take_ofW HT_.out HW_.out (by kernel_rfl)) (fun _ _ _ h => h) (Or.inl ⟨by rfl, ?_⟩) hHeld ?_ ?_
                      rotate_left
                      ·(rintro w' ⟨s0, s1, s2, s3, s4, s5, s6, s7, s8⟩); go_simp; with_reducible rfl
                      rotate_left
                      ·(simp only [Act.put, sia_, sz_, ss_, i64_w, i32_w]); rfl
                      refine pure_ (i := 6) (N := some 120) (v := ?_) (a' := ?_) #[tt,tt,tt,tt,tt,tt,tt,ff,ff,ff,ff,ff,ff,ff,ff] rfl rfl (any_of HT_.out (by kernel_rfl)) (fun _ _ _ h => h) (Or.inl ⟨by rfl, ?_⟩) ?_ ?_
                      rotate_left
                      ·intro w'; go_simp; with_reducible rfl
                      rotate_left
                      ·(simp only [Act.put, sia_, sz_, ss_, i64_w, i32_w]); rfl
                      refine pure_ (i := 7) (N := some 121) (v := ?_) (a' := ?_) #[tt,tt,tt,tt,tt,tt,tt,tt,ff,ff,ff,ff,ff,ff,ff] rfl rfl (any_of HT_.out (by kernel_rfl)) (fun _ _ _ h => h) (Or.inl ⟨by rfl, ?_⟩) ?_ ?_
                      rotate_left
                      ·intro w'; go_simp; with_reducible rfl
                      rotate_left
                      ·(simp only [Act.put, sia_, sz_, ss_, i64_w, i32_w]); rfl
                      refine take_ (i := 8) (N := some 122) (v := ?_) (a' := ?_) #[tt,tt,tt,tt,tt,tt,tt,tt,tt,ff,ff,ff,ff,ff,ff] rfl rfl (take_ofW HT_.out HW_.out (by kernel_rfl)) (fun _ _ _ h => h) (Or.inl ⟨by rfl, ?_⟩) hHeld ?_ ?_
                      rotate_left
                      ·(rintro w' ⟨s0, s1, s2, s3, s4, s5, s6, s7, s8⟩); go_simp; with_reducible rfl
                      rotate_left
                      ·(simp only [Act.put, sia_, sz_, ss_, i64_w, i32_w]); rfl
                      refine pure_ (i := 9) (N := some 123) (v := ?_) (a' := ?_) #[tt,tt,tt,tt,tt,tt,tt,tt,tt,tt,ff,ff,ff,ff,ff] rfl rfl (any_of HT_.out (by kernel_rfl)) (fun _ _ _ h => h) (Or.inl ⟨by rfl, ?_⟩) ?_ ?_
                      rotate_left
                      ·intro w'; go_simp; with_reducible rfl
                      rotate_left
                      ·(simp only [Act.put, sia_, sz_, ss_, i64_w, i32_w]); rfl
                      refine take_ (i := 11) (N := some 125) (v := ?_) (a' := ?_) #[tt,tt,tt,tt,tt,tt,tt,tt,tt,tt,ff,tt,ff,ff,ff] rfl rfl (take_ofW HT_.out HW_.out (by kernel_rfl)) (fun _ _ _ h => h) (Or.inl ⟨by rfl, ?_⟩) hHeld ?_ ?_
                      rotate_left
                      ·(rintro w' ⟨s0, s1, s2, s3, s4, s5, s6, s7, s8⟩); go_simp; with_reducible rfl
                      rotate_left
                      ·(simp only [Act.put, sia_, sz_, ss_, i64_w, i32_w]); rfl
                      refine one_ (i := 10) (N := some 124) #[tt,tt,tt,tt,tt,tt,tt,tt,tt,tt,tt,tt,ff,ff,ff] rfl rfl (one_of HT_.out (by kernel_rfl)) (by decide) (fun K hK => ?_)
                      (refine goes_ Try.func51 (by kernel_rfl) rfl #[.agg #[.int .i64 ((rd_T24 s0_0 x6_1).f0), .int .i64 ((rd_T24 s0_0 x6_1).f1), .int .i64 ((rd_T24 s0_0 x6_1).f2), .int .i64 ((rd_T24 s0_0 x6_1).f3)], .int .i64 x12_5] (by rfl) rfl rfl (by (try simp only [List.map_toArray, List.map_cons, List.map_nil]); first | done | rfl | (simp only [List.length_drop, List.length_take]; rfl)) ?_); (with_reducible refine (spec_l30Turn.calls ((rd_T24 s0_0 x6_1).f0) ((rd_T24 s0_0 x6_1).f1) ((rd_T24 s0_0 x6_1).f2) ((rd_T24 s0_0 x6_1).f3) x12_5 t606 t607 t608 t609 _ A33.out).mono ?_); (rintro e w35 ⟨rfl, hb⟩); (refine ⟨_, rfl, ?_⟩); (have n0_ := A0_ (blk_below (g := gb604) (o := .cells #[.int .i64 t600, .int .i64 t601, .int .i64 t602, .int .i64 t603] 24 (0, 0)) (by (with_reducible repeat (first | apply gn_ | apply gd_ | apply ga_)); exact BK604.out) hb); have n1_ := A0_ (IsV.below (by repeat (first | (with_reducible first | exact HI0.out | apply IsV.alloc | apply IsV.drewN | apply IsV.drew | apply IsV.set_3 | apply IsV.set_6 | refine IsV.store4 ?_ NB0_604.out BK604.out (by decide) (by decide) _ _ _ _) | exact HI0.out)) hb); have n2_ := A0_ (KB.trans (by repeat (first | (with_reducible first | exact HK.out | apply KB.set_ | apply kb_drewN | apply kb_drew | apply kb_alloc | refine kb_far ?_ GW604.out _) | exact HK.out)) (KeepBut.of_below hb g none) (.inl rfl)); have n3_ := A0_ (below_step (by repeat (first | (with_reducible first | exact HB.out | apply ba_ | apply bn_ | apply bd_ | refine below_set ?_ (IsV.ge HI0.out) | refine below_set ?_ GE604.out) | exact HB.out)) hb); clear BK604; clear HI0; clear HK; clear HB; have BK604 := n0_; have HI0 := n1_; have HK := n2_; have HB := n3_; clear n0_ n1_ n2_ n3_)
                      refine hK.out _ _ ⟨pw_cell_below hb hHeld.1, pw_cell_below hb hHeld.2.1, pw_cell_below hb hHeld.2.2.1, pw_cell_below hb hHeld.2.2.2.1, pw_cell_below hb hHeld.2.2.2.2.1, pw_cell_below hb hHeld.2.2.2.2.2.1, pw_cell_below hb hHeld.2.2.2.2.2.2.1, pw_cell_below hb hHeld.2.2.2.2.2.2.2.1, pw_cell_below hb hHeld.2.2.2.2.2.2.2.2⟩ (fun hHeld => ?_)
                      clear hb; clear hK K; (refine norm_ (a' := ?_) ?_ ?_); rotate_left
                      ·(show Act.put _ (some 124) _ = _); (simp only [Act.put, sia_, sz_, ss_, i64_w, i32_w]); rfl
                      refine pure_ (i := 12) (N := some 126) (v := ?_) (a' := ?_) #[tt,tt,tt,tt,tt,tt,tt,tt,tt,tt,tt,tt,tt,ff,ff] rfl rfl (any_of HT_.out (by kernel_rfl)) (fun _ _ _ h => h) (Or.inl ⟨by rfl, ?_⟩) ?_ ?_
                      rotate_left
                      ·intro w'; go_simp; with_reducible rfl
                      rotate_left
                      ·(simp only [Act.put, sia_, sz_, ss_, i64_w, i32_w]); rfl
                      refine pure_ (i := 13) (N := some 127) (v := ?_) (a' := ?_) #[tt,tt,tt,tt,tt,tt,tt,tt,tt,tt,tt,tt,tt,tt,ff] rfl rfl (any_of HT_.out (by kernel_rfl)) (fun _ _ _ h => h) (Or.inl ⟨by rfl, ?_⟩) ?_ ?_
                      rotate_left
                      ·intro w'; go_simp; with_reducible rfl
                      rotate_left
                      ·(simp only [Act.put, sia_, sz_, ss_, i64_w, i32_w]); rfl
                      refine pure_ (i := 14) (N := some 11) (v := ?_) (a' := ?_) #[tt,tt,tt,tt,tt,tt,tt,tt,tt,tt,tt,tt,tt,tt,tt] rfl rfl (any_of HT_.out (by kernel_rfl)) (fun _ _ _ h => h) (Or.inl ⟨by rfl, ?_⟩) ?_ ?_
                      rotate_left
                      ·intro w'; go_simp; with_reducible rfl
                      rotate_left
                      ·(simp only [Act.put, sia_, sz_, ss_, i64_w, i32_w]); rfl
                      (refine done_ (done_of HT_.out (by kernel_rfl)) ?_); (try go_wp2); (go_roundg k5)
                      case measure => have := HK1.out; have := HK2.out; have := HK3.out; have := HJ13.out; have := HK5.out; omega
                      case rel => exact ⟨((t606 == t600 && (t607 == t601 && (t608 == t602 && (t609 == t603))))), (wrap64 (x12_5 + 1)), (by first | rfl | (simp; done) | (simp [*]; done)), (by first | rfl | (simp; done) | (simp [*]; done)), H', ⟨by have := HK1.out; have := HK2.out; have := HK3.out; have := HJ13.out; have := HK5.out; omega⟩, ⟨by (with_reducible repeat (first | apply gn_ | apply gd_ | apply ga_)); exact BK604.out⟩, ⟨by repeat (first | (with_reducible first | exact HI0.out | apply IsV.alloc | apply IsV.drewN | apply IsV.drew | apply IsV.set_3 | apply IsV.set_6 | refine IsV.store4 ?_ NB0_604.out BK604.out (by decide) (by decide) _ _ _ _) | exact HI0.out)⟩, ⟨by repeat (first | (with_reducible first | exact HK.out | apply KB.set_ | apply kb_drewN | apply kb_drew | apply kb_alloc | refine kb_far ?_ GW604.out _) | exact HK.out)⟩, ⟨by repeat (first | (with_reducible first | exact HB.out | apply ba_ | apply bn_ | apply bd_ | refine below_set ?_ (IsV.ge HI0.out) | refine below_set ?_ GE604.out) | exact HB.out)⟩⟩
                     ·(rw [if_neg c32] at H); (exact absurd H (by simp))
                    ·(rw [if_neg c31] at H); (exact absurd H (by simp))
                  ·(rw [if_neg c29] at H); (have c29b0 : decide (x12_5 < x9_3) = false := decide_eq_false c29); clear c29; (by_cases c38 : x11_5 = true)
                   ·subst c38; (have H1 : (spec_l30Visit.l2 k5 l1 l2 x6_1 x7_2 (wrap64 (x9_3 + 1)) s0_0 x1001_3 x1002_3 x1003_3 x1004_3 x1005_3 x1006_3) = some (r1, r2, r3, r4, r5, r6) := by rw [if_pos rfl] at H; exact H); clear H; (have H := H1); clear H1; (have H' := A0_ H); clear H; (go_wp2; repeat (go_quiet (fail); try go_wp2)); (go_roundg k5)
                    case measure => have := HK1.out; have := HK2.out; have := HK3.out; have := HJ13.out; have := HK5.out; omega
                    case rel => exact ⟨(wrap64 (x9_3 + 1)), (x1001_3), (x1002_3), (x1003_3), (x1004_3), (x1005_3), (x1006_3), (by first | rfl | (simp; done) | (simp [*]; done)), H', ⟨by have := HK1.out; have := HK2.out; have := HK3.out; have := HJ13.out; have := HK5.out; omega⟩, ⟨by repeat (first | (with_reducible first | exact HI0.out | apply IsV.alloc | apply IsV.drewN | apply IsV.drew | apply IsV.set_3 | apply IsV.set_6 | refine IsV.store4 ?_ NB0_604.out BK604.out (by decide) (by decide) _ _ _ _) | exact HI0.out)⟩, ⟨by repeat (first | (with_reducible first | exact HK.out | apply KB.set_ | apply kb_drewN | apply kb_drew | apply kb_alloc | refine kb_far ?_ GW604.out _) | exact HK.out)⟩, ⟨by repeat (first | (with_reducible first | exact HB.out | apply ba_ | apply bn_ | apply bd_ | refine below_set ?_ (IsV.ge HI0.out) | refine below_set ?_ GE604.out) | exact HB.out)⟩⟩
                   ·(replace c38 := Bool.eq_false_iff.mpr c38); subst c38
                    have H1 : ((spec_l30Fits.f k5 l2 t600 t601 t602 t603 x1001_3 x1002_3).bind fun t610 => (if t610 = true then ((some (([] : List (S74)) : List (S74))).bind fun y611 => (if y611.length + l1.length < 8796093022208 then ((some (y611 ++ l1 : List (S74))).bind fun y614 => ((some (([(⟨x6_1, x9_3⟩ : S74)] : List (S74)) : List (S74))).bind fun y617 => (if y614.length + y617.length < 8796093022208 then ((some (([] : List (S24)) : List (S24))).bind fun y623 => (if y623.length + l2.length < 4398046511104 then ((some (y623 ++ l2 : List (S24))).bind fun y626 => ((some (([(⟨t600, t601, t602, t603⟩ : S24)] : List (S24)) : List (S24))).bind fun y629 => (if y626.length + y629.length < 4398046511104 then ((spec_l30Visit.f k5 s0_0 x1001_3 x1002_3 x1003_3 x1004_3 x1005_3 x1006_3 (y614 ++ y617) (y626 ++ y629)).bind fun bt635 => (spec_l30Visit.l2 k5 l1 l2 x6_1 x7_2 (wrap64 (x9_3 + 1)) s0_0 bt635.1 bt635.2.1 bt635.2.2.1 bt635.2.2.2.1 bt635.2.2.2.2.1 bt635.2.2.2.2.2)) else (none)))) else (none))) else (none)))) else (none))) else (spec_l30Visit.l2 k5 l1 l2 x6_1 x7_2 (wrap64 (x9_3 + 1)) s0_0 x1001_3 x1002_3 x1003_3 x1004_3 x1005_3 x1006_3))) = some (r1, r2, r3, r4, r5, r6) := by rw [if_neg (show ¬ (false = true) by decide)] at H; exact H
                    clear H; (have H := H1); clear H1; (replace H := Option.bind_eq_some_iff.mp H); (obtain ⟨t610, A390, H⟩ := H)
                    replace H : (if t610 = true then ((some (([] : List (S74)) : List (S74))).bind fun y611 => (if y611.length + l1.length < 8796093022208 then ((some (y611 ++ l1 : List (S74))).bind fun y614 => ((some (([(⟨x6_1, x9_3⟩ : S74)] : List (S74)) : List (S74))).bind fun y617 => (if y614.length + y617.length < 8796093022208 then ((some (([] : List (S24)) : List (S24))).bind fun y623 => (if y623.length + l2.length < 4398046511104 then ((some (y623 ++ l2 : List (S24))).bind fun y626 => ((some (([(⟨t600, t601, t602, t603⟩ : S24)] : List (S24)) : List (S24))).bind fun y629 => (if y626.length + y629.length < 4398046511104 then ((spec_l30Visit.f k5 s0_0 x1001_3 x1002_3 x1003_3 x1004_3 x1005_3 x1006_3 (y614 ++ y617) (y626 ++ y629)).bind fun bt635 => (spec_l30Visit.l2 k5 l1 l2 x6_1 x7_2 (wrap64 (x9_3 + 1)) s0_0 bt635.1 bt635.2.1 bt635.2.2.1 bt635.2.2.2.1 bt635.2.2.2.2.1 bt635.2.2.2.2.2)) else (none)))) else (none))) else (none)))) else (none))) else (spec_l30Visit.l2 k5 l1 l2 x6_1 x7_2 (wrap64 (x9_3 + 1)) s0_0 x1001_3 x1002_3 x1003_3 x1004_3 x1005_3 x1006_3)) = some (r1, r2, r3, r4, r5, r6) := H
                    (have A39 := A0_ A390); clear A390; (by_cases c40 : t610 = true)
                    ·subst c40
                     have H1 : ((some (([] : List (S74)) : List (S74))).bind fun y611 => (if y611.length + l1.length < 8796093022208 then ((some (y611 ++ l1 : List (S74))).bind fun y614 => ((some (([(⟨x6_1, x9_3⟩ : S74)] : List (S74)) : List (S74))).bind fun y617 => (if y614.length + y617.length < 8796093022208 then ((some (([] : List (S24)) : List (S24))).bind fun y623 => (if y623.length + l2.length < 4398046511104 then ((some (y623 ++ l2 : List (S24))).bind fun y626 => ((some (([(⟨t600, t601, t602, t603⟩ : S24)] : List (S24)) : List (S24))).bind fun y629 => (if y626.length + y629.length < 4398046511104 then ((spec_l30Visit.f k5 s0_0 x1001_3 x1002_3 x1003_3 x1004_3 x1005_3 x1006_3 (y614 ++ y617) (y626 ++ y629)).bind fun bt635 => (spec_l30Visit.l2 k5 l1 l2 x6_1 x7_2 (wrap64 (x9_3 + 1)) s0_0 bt635.1 bt635.2.1 bt635.2.2.1 bt635.2.2.2.1 bt635.2.2.2.2.1 bt635.2.2.2.2.2)) else (none)))) else (none))) else (none)))) else (none))) = some (r1, r2, r3, r4, r5, r6) := by rw [if_pos rfl] at H; exact H
                     clear H; (have H := H1); clear H1; (obtain ⟨y611, hy611⟩ : ∃ y_ : List (S74), y_ = (([] : List (S74))) := ⟨_, rfl⟩)
                     replace H : (if y611.length + l1.length < 8796093022208 then ((some (y611 ++ l1 : List (S74))).bind fun y614 => ((some (([(⟨x6_1, x9_3⟩ : S74)] : List (S74)) : List (S74))).bind fun y617 => (if y614.length + y617.length < 8796093022208 then ((some (([] : List (S24)) : List (S24))).bind fun y623 => (if y623.length + l2.length < 4398046511104 then ((some (y623 ++ l2 : List (S24))).bind fun y626 => ((some (([(⟨t600, t601, t602, t603⟩ : S24)] : List (S24)) : List (S24))).bind fun y629 => (if y626.length + y629.length < 4398046511104 then ((spec_l30Visit.f k5 s0_0 x1001_3 x1002_3 x1003_3 x1004_3 x1005_3 x1006_3 (y614 ++ y617) (y626 ++ y629)).bind fun bt635 => (spec_l30Visit.l2 k5 l1 l2 x6_1 x7_2 (wrap64 (x9_3 + 1)) s0_0 bt635.1 bt635.2.1 bt635.2.2.1 bt635.2.2.2.1 bt635.2.2.2.2.1 bt635.2.2.2.2.2)) else (none)))) else (none))) else (none)))) else (none)) = some (r1, r2, r3, r4, r5, r6) := by first | (rw [hy611]; with_reducible exact H) | (have H2_ := (Option.bind_some _ _).symm.trans H; rw [hy611]; with_reducible exact H2_) | (have H2_ := (Option.bind_some _ _).symm.trans H; with_reducible exact H2_) | with_reducible exact H | (rw [hy611]; exact H) | exact H
                     (have Ny611 := A0_ hy611); clear hy611; (by_cases c41 : y611.length + l1.length < 8796093022208)
                     ·(rw [if_pos c41] at H); (have LMc41 := A0_ c41); clear c41; (obtain ⟨y614, hy614⟩ : ∃ y_ : List (S74), y_ = (y611 ++ l1) := ⟨_, rfl⟩)
                      replace H : ((some (([(⟨x6_1, x9_3⟩ : S74)] : List (S74)) : List (S74))).bind fun y617 => (if y614.length + y617.length < 8796093022208 then ((some (([] : List (S24)) : List (S24))).bind fun y623 => (if y623.length + l2.length < 4398046511104 then ((some (y623 ++ l2 : List (S24))).bind fun y626 => ((some (([(⟨t600, t601, t602, t603⟩ : S24)] : List (S24)) : List (S24))).bind fun y629 => (if y626.length + y629.length < 4398046511104 then ((spec_l30Visit.f k5 s0_0 x1001_3 x1002_3 x1003_3 x1004_3 x1005_3 x1006_3 (y614 ++ y617) (y626 ++ y629)).bind fun bt635 => (spec_l30Visit.l2 k5 l1 l2 x6_1 x7_2 (wrap64 (x9_3 + 1)) s0_0 bt635.1 bt635.2.1 bt635.2.2.1 bt635.2.2.2.1 bt635.2.2.2.2.1 bt635.2.2.2.2.2)) else (none)))) else (none))) else (none))) = some (r1, r2, r3, r4, r5, r6) := by first | (rw [hy614]; with_reducible exact H) | (have H2_ := (Option.bind_some _ _).symm.trans H; rw [hy614]; with_reducible exact H2_) | (have H2_ := (Option.bind_some _ _).symm.trans H; with_reducible exact H2_) | with_reducible exact H | (rw [hy614]; exact H) | exact H
                      (have Ny614 := A0_ hy614); clear hy614; (obtain ⟨y617, hy617⟩ : ∃ y_ : List (S74), y_ = (([(⟨x6_1, x9_3⟩ : S74)] : List (S74))) := ⟨_, rfl⟩)
                      replace H : (if y614.length + y617.length < 8796093022208 then ((some (([] : List (S24)) : List (S24))).bind fun y623 => (if y623.length + l2.length < 4398046511104 then ((some (y623 ++ l2 : List (S24))).bind fun y626 => ((some (([(⟨t600, t601, t602, t603⟩ : S24)] : List (S24)) : List (S24))).bind fun y629 => (if y626.length + y629.length < 4398046511104 then ((spec_l30Visit.f k5 s0_0 x1001_3 x1002_3 x1003_3 x1004_3 x1005_3 x1006_3 (y614 ++ y617) (y626 ++ y629)).bind fun bt635 => (spec_l30Visit.l2 k5 l1 l2 x6_1 x7_2 (wrap64 (x9_3 + 1)) s0_0 bt635.1 bt635.2.1 bt635.2.2.1 bt635.2.2.2.1 bt635.2.2.2.2.1 bt635.2.2.2.2.2)) else (none)))) else (none))) else (none)) = some (r1, r2, r3, r4, r5, r6) := by first | (rw [hy617]; with_reducible exact H) | (have H2_ := (Option.bind_some _ _).symm.trans H; rw [hy617]; with_reducible exact H2_) | (have H2_ := (Option.bind_some _ _).symm.trans H; with_reducible exact H2_) | with_reducible exact H | (rw [hy617]; exact H) | exact H
                      (have Ny617 := A0_ hy617); clear hy617; (by_cases c42 : y614.length + y617.length < 8796093022208)
                      ·(rw [if_pos c42] at H); (have LMc42 := A0_ c42); clear c42; (obtain ⟨y620, hy620⟩ : ∃ y_ : List (S74), y_ = (y614 ++ y617) := ⟨_, rfl⟩)
                       replace H : ((some (([] : List (S24)) : List (S24))).bind fun y623 => (if y623.length + l2.length < 4398046511104 then ((some (y623 ++ l2 : List (S24))).bind fun y626 => ((some (([(⟨t600, t601, t602, t603⟩ : S24)] : List (S24)) : List (S24))).bind fun y629 => (if y626.length + y629.length < 4398046511104 then ((spec_l30Visit.f k5 s0_0 x1001_3 x1002_3 x1003_3 x1004_3 x1005_3 x1006_3 y620 (y626 ++ y629)).bind fun bt635 => (spec_l30Visit.l2 k5 l1 l2 x6_1 x7_2 (wrap64 (x9_3 + 1)) s0_0 bt635.1 bt635.2.1 bt635.2.2.1 bt635.2.2.2.1 bt635.2.2.2.2.1 bt635.2.2.2.2.2)) else (none)))) else (none))) = some (r1, r2, r3, r4, r5, r6) := by first | (rw [hy620]; with_reducible exact H) | (have H2_ := (Option.bind_some _ _).symm.trans H; rw [hy620]; with_reducible exact H2_) | (have H2_ := (Option.bind_some _ _).symm.trans H; with_reducible exact H2_) | with_reducible exact H | (rw [hy620]; exact H) | exact H
                       (have Ny620 := A0_ hy620); clear hy620; (obtain ⟨y623, hy623⟩ : ∃ y_ : List (S24), y_ = (([] : List (S24))) := ⟨_, rfl⟩)
                       replace H : (if y623.length + l2.length < 4398046511104 then ((some (y623 ++ l2 : List (S24))).bind fun y626 => ((some (([(⟨t600, t601, t602, t603⟩ : S24)] : List (S24)) : List (S24))).bind fun y629 => (if y626.length + y629.length < 4398046511104 then ((spec_l30Visit.f k5 s0_0 x1001_3 x1002_3 x1003_3 x1004_3 x1005_3 x1006_3 y620 (y626 ++ y629)).bind fun bt635 => (spec_l30Visit.l2 k5 l1 l2 x6_1 x7_2 (wrap64 (x9_3 + 1)) s0_0 bt635.1 bt635.2.1 bt635.2.2.1 bt635.2.2.2.1 bt635.2.2.2.2.1 bt635.2.2.2.2.2)) else (none)))) else (none)) = some (r1, r2, r3, r4, r5, r6) := by first | (rw [hy623]; with_reducible exact H) | (have H2_ := (Option.bind_some _ _).symm.trans H; rw [hy623]; with_reducible exact H2_) | (have H2_ := (Option.bind_some _ _).symm.trans H; with_reducible exact H2_) | with_reducible exact H | (rw [hy623]; exact H) | exact H
                       (have Ny623 := A0_ hy623); clear hy623; (by_cases c43 : y623.length + l2.length < 4398046511104)
                       ·(rw [if_pos c43] at H); (have LMc43 := A0_ c43); clear c43; (obtain ⟨y626, hy626⟩ : ∃ y_ : List (S24), y_ = (y623 ++ l2) := ⟨_, rfl⟩)
                        replace H : ((some (([(⟨t600, t601, t602, t603⟩ : S24)] : List (S24)) : List (S24))).bind fun y629 => (if y626.length + y629.length < 4398046511104 then ((spec_l30Visit.f k5 s0_0 x1001_3 x1002_3 x1003_3 x1004_3 x1005_3 x1006_3 y620 (y626 ++ y629)).bind fun bt635 => (spec_l30Visit.l2 k5 l1 l2 x6_1 x7_2 (wrap64 (x9_3 + 1)) s0_0 bt635.1 bt635.2.1 bt635.2.2.1 bt635.2.2.2.1 bt635.2.2.2.2.1 bt635.2.2.2.2.2)) else (none))) = some (r1, r2, r3, r4, r5, r6) := by first | (rw [hy626]; with_reducible exact H) | (have H2_ := (Option.bind_some _ _).symm.trans H; rw [hy626]; with_reducible exact H2_) | (have H2_ := (Option.bind_some _ _).symm.trans H; with_reducible exact H2_) | with_reducible exact H | (rw [hy626]; exact H) | exact H
                        (have Ny626 := A0_ hy626); clear hy626; (obtain ⟨y629, hy629⟩ : ∃ y_ : List (S24), y_ = (([(⟨t600, t601, t602, t603⟩ : S24)] : List (S24))) := ⟨_, rfl⟩)
                        replace H : (if y626.length + y629.length < 4398046511104 then ((spec_l30Visit.f k5 s0_0 x1001_3 x1002_3 x1003_3 x1004_3 x1005_3 x1006_3 y620 (y626 ++ y629)).bind fun bt635 => (spec_l30Visit.l2 k5 l1 l2 x6_1 x7_2 (wrap64 (x9_3 + 1)) s0_0 bt635.1 bt635.2.1 bt635.2.2.1 bt635.2.2.2.1 bt635.2.2.2.2.1 bt635.2.2.2.2.2)) else (none)) = some (r1, r2, r3, r4, r5, r6) := by first | (rw [hy629]; with_reducible exact H) | (have H2_ := (Option.bind_some _ _).symm.trans H; rw [hy629]; with_reducible exact H2_) | (have H2_ := (Option.bind_some _ _).symm.trans H; with_reducible exact H2_) | with_reducible exact H | (rw [hy629]; exact H) | exact H
                        (have Ny629 := A0_ hy629); clear hy629; (by_cases c44 : y626.length + y629.length < 4398046511104)
                        ·(rw [if_pos c44] at H); (have LMc44 := A0_ c44); clear c44; (obtain ⟨y632, hy632⟩ : ∃ y_ : List (S24), y_ = (y626 ++ y629) := ⟨_, rfl⟩)
                         replace H : ((spec_l30Visit.f k5 s0_0 x1001_3 x1002_3 x1003_3 x1004_3 x1005_3 x1006_3 y620 y632).bind fun bt635 => (spec_l30Visit.l2 k5 l1 l2 x6_1 x7_2 (wrap64 (x9_3 + 1)) s0_0 bt635.1 bt635.2.1 bt635.2.2.1 bt635.2.2.2.1 bt635.2.2.2.2.1 bt635.2.2.2.2.2)) = some (r1, r2, r3, r4, r5, r6) := by first | (rw [hy632]; with_reducible exact H) | (have H2_ := (Option.bind_some _ _).symm.trans H; rw [hy632]; with_reducible exact H2_) | (have H2_ := (Option.bind_some _ _).symm.trans H; with_reducible exact H2_) | with_reducible exact H | (rw [hy632]; exact H) | exact H
                         (have Ny632 := A0_ hy632); clear hy632; (replace H := Option.bind_eq_some_iff.mp H); (obtain ⟨⟨t635, t636, t637, t638, t639, t640⟩, A450, H⟩ := H); (replace H : (spec_l30Visit.l2 k5 l1 l2 x6_1 x7_2 (wrap64 (x9_3 + 1)) s0_0 t635 t636 t637 t638 t639 t640) = some (r1, r2, r3, r4, r5, r6) := H); (have A45 := A0_ A450); clear A450; (have H' := A0_ H); clear H; (have hnb46 := NB604_0.out); (have hnc46 := NB0_604.out); (have hcz47_0 : wr.cell? ⟨gb604, 0, none⟩ = some (.int .i64 t600) := (blk_cell BK604.out 0).trans rfl); (have hcz47_1 : wr.cell? ⟨gb604, 1, none⟩ = some (.int .i64 t601) := (blk_cell BK604.out 1).trans rfl); (have hcz47_2 : wr.cell? ⟨gb604, 2, none⟩ = some (.int .i64 t602) := (blk_cell BK604.out 2).trans rfl); (have hcz47_3 : wr.cell? ⟨gb604, 3, none⟩ = some (.int .i64 t603) := (blk_cell BK604.out 3).trans rfl); (have hfz47_0 := blk_frozen BK604.out 0); (have hfz47_1 := blk_frozen BK604.out 1); (have hfz47_2 := blk_frozen BK604.out 2); (have hfz47_3 := blk_frozen BK604.out 3); (obtain ⟨ASz48_0, cSz48_0, ASz48_4, cSz48_4, HGz48, hgz48, HSz48_0, _⟩ := HI0.out); (have hcz48_0 := cellS84_0 HGz48); (have hcz48_1 := cellS84_1 HGz48); (have hcz48_2 := cellS84_2 HGz48); (have hcz48_3 := cellS84_3 HGz48); (have hcz48_4 := cellS84_4 HGz48); (have hcz48_5 := cellS84_5 HGz48); (have hcz48_6 := cellS84_6 HGz48); (have hfz48_1 := blk_frozen HGz48 1); (have hfz48_2 := blk_frozen HGz48 2); (have hfz48_3 := blk_frozen HGz48 3); (have hfz48_4 := blk_frozen HGz48 4); (have hfz48_5 := blk_frozen HGz48 5); (have hfz48_6 := blk_frozen HGz48 6); clear HGz48 hgz48; go_wp2; (obtain ⟨hs1_, hs2_⟩ := (show (wr.cell? ⟨g, 1, none⟩ = some (.int .i64 x1001_3)) ∧ (wr.cell? ⟨g, 2, none⟩ = some (.int .i64 x1002_3)) from by obtain ⟨_, _, _, _, hb_, _⟩ := HI0.out; exact ⟨cellS84_1 hb_, cellS84_2 hb_⟩)); (have n0_ := A0_ (blk_drew BK604.out)); (have n1_ := A0_ (IsV.drew HI0.out)); (have n2_ := A0_ (kb_drew HK.out)); (have n3_ := A0_ (below_drew1 HB.out)); clear BK604 HI0 HK HB; (have BK604 := n0_); (have HI0 := n1_); (have HK := n2_); (have HB := n3_); clear n0_ n1_ n2_ n3_
                         refine start_ (n := 15) (S := fun w' => w'.cell? ⟨gb604, 0, none⟩ = some (.int .i64 t600) ∧ w'.cell? ⟨gb604, 1, none⟩ = some (.int .i64 t601) ∧ w'.cell? ⟨gb604, 2, none⟩ = some (.int .i64 t602) ∧ w'.cell? ⟨gb604, 3, none⟩ = some (.int .i64 t603) ∧ w'.cell? ⟨g, 1, none⟩ = some (.int .i64 x1001_3) ∧ w'.cell? ⟨g, 2, none⟩ = some (.int .i64 x1002_3)) (ds := [13]) #[ff,ff,ff,ff,ff,ff,ff,ff,ff,ff,ff,ff,ff,ff,ff] (by kernel_rfl) rfl rfl ⟨(blk_cell BK604.out 0).trans rfl, (blk_cell BK604.out 1).trans rfl, (blk_cell BK604.out 2).trans rfl, (blk_cell BK604.out 3).trans rfl, hs1_, hs2_⟩ (fun hHeld => ?_)
                         refine with_tabW spec_l30Visit.tab22 spec_l30Visit.bits22 (fun HT_ HW_ => ?_)
                         refine pure_ (i := 0) (N := some 128) (v := ?_) (a' := ?_) #[tt,ff,ff,ff,ff,ff,ff,ff,ff,ff,ff,ff,ff,ff,ff] rfl rfl (any_of HT_.out (by kernel_rfl)) (fun _ _ _ h => h) (Or.inl ⟨by rfl, ?_⟩) ?_ ?_
                         rotate_left
                         ·intro w'; go_simp; with_reducible rfl
                         rotate_left
                         ·(simp only [Act.put, sia_, sz_, ss_, i64_w, i32_w]); rfl
                         refine pure_ (i := 1) (N := some 129) (v := ?_) (a' := ?_) #[tt,tt,ff,ff,ff,ff,ff,ff,ff,ff,ff,ff,ff,ff,ff] rfl rfl (any_of HT_.out (by kernel_rfl)) (fun _ _ _ h => h) (Or.inl ⟨by rfl, ?_⟩) ?_ ?_
                         rotate_left
                         ·intro w'; go_simp; with_reducible rfl
                         rotate_left
                         ·(simp only [Act.put, sia_, sz_, ss_, i64_w, i32_w]); rfl
                         refine pure_ (i := 2) (N := some 130) (v := ?_) (a' := ?_) #[tt,tt,tt,ff,ff,ff,ff,ff,ff,ff,ff,ff,ff,ff,ff] rfl rfl (any_of HT_.out (by kernel_rfl)) (fun _ _ _ h => h) (Or.inl ⟨by rfl, ?_⟩) ?_ ?_
                         rotate_left
                         ·intro w'; go_simp; with_reducible rfl
                         rotate_left
                         ·(simp only [Act.put, sia_, sz_, ss_, i64_w, i32_w]); rfl
                         refine pure_ (i := 3) (N := some 131) (v := ?_) (a' := ?_) #[tt,tt,tt,tt,ff,ff,ff,ff,ff,ff,ff,ff,ff,ff,ff] rfl rfl (any_of HT_.out (by kernel_rfl)) (fun _ _ _ h => h) (Or.inl ⟨by rfl, ?_⟩) ?_ ?_
                         rotate_left
                         ·intro w'; go_simp; with_reducible rfl
                         rotate_left
                         ·(simp only [Act.put, sia_, sz_, ss_, i64_w, i32_w]); rfl
                         refine take_ (i := 4) (N := some 132) (v := ?_) (a' := ?_) #[tt,tt,tt,tt,tt,ff,ff,ff,ff,ff,ff,ff,ff,ff,ff] rfl rfl (take_ofW HT_.out HW_.out (by kernel_rfl)) (fun _ _ _ h => h) (Or.inl ⟨by rfl, ?_⟩) hHeld ?_ ?_
                         rotate_left
                         ·(rintro w' ⟨s0, s1, s2, s3, s4, s5⟩); go_simp; with_reducible rfl
                         rotate_left
                         ·(simp only [Act.put, sia_, sz_, ss_, i64_w, i32_w]); rfl
                         refine pure_ (i := 5) (N := some 133) (v := ?_) (a' := ?_) #[tt,tt,tt,tt,tt,tt,ff,ff,ff,ff,ff,ff,ff,ff,ff] rfl rfl (any_of HT_.out (by kernel_rfl)) (fun _ _ _ h => h) (Or.inl ⟨by rfl, ?_⟩) ?_ ?_
                         rotate_left
                         ·intro w'; go_simp; with_reducible rfl
                         rotate_left
                         ·(simp only [Act.put, sia_, sz_, ss_, i64_w, i32_w]); rfl
                         refine pure_ (i := 6) (N := some 134) (v := ?_) (a' := ?_) #[tt,tt,tt,tt,tt,tt,tt,ff,ff,ff,ff,ff,ff,ff,ff] rfl rfl (any_of HT_.out (by kernel_rfl)) (fun _ _ _ h => h) (Or.inl ⟨by rfl, ?_⟩) ?_ ?_
                         rotate_left
                         ·intro w'; go_simp; with_reducible rfl
                         rotate_left
                         ·(simp only [Act.put, sia_, sz_, ss_, i64_w, i32_w]); rfl
                         refine pure_ (i := 7) (N := some 135) (v := ?_) (a' := ?_) #[tt,tt,tt,tt,tt,tt,tt,tt,ff,ff,ff,ff,ff,ff,ff] rfl rfl (any_of HT_.out (by kernel_rfl)) (fun _ _ _ h => h) (Or.inl ⟨by rfl, ?_⟩) ?_ ?_
                         rotate_left
                         ·intro w'; go_simp; with_reducible rfl
                         rotate_left
                         ·(simp only [Act.put, sia_, sz_, ss_, i64_w, i32_w]); rfl
                         refine take_ (i := 8) (N := some 136) (v := ?_) (a' := ?_) #[tt,tt,tt,tt,tt,tt,tt,tt,tt,ff,ff,ff,ff,ff,ff] rfl rfl (take_ofW HT_.out HW_.out (by kernel_rfl)) (fun _ _ _ h => h) (Or.inl ⟨by rfl, ?_⟩) hHeld ?_ ?_
                         rotate_left
                         ·(rintro w' ⟨s0, s1, s2, s3, s4, s5⟩); go_simp; with_reducible rfl
                         rotate_left
                         ·(simp only [Act.put, sia_, sz_, ss_, i64_w, i32_w]); rfl
                         refine pure_ (i := 9) (N := some 137) (v := ?_) (a' := ?_) #[tt,tt,tt,tt,tt,tt,tt,tt,tt,tt,ff,ff,ff,ff,ff] rfl rfl (any_of HT_.out (by kernel_rfl)) (fun _ _ _ h => h) (Or.inl ⟨by rfl, ?_⟩) ?_ ?_
                         rotate_left
                         ·intro w'; go_simp; with_reducible rfl
                         rotate_left
                         ·(simp only [Act.put, sia_, sz_, ss_, i64_w, i32_w]); rfl
                         refine pure_ (i := 10) (N := some 138) (v := ?_) (a' := ?_) #[tt,tt,tt,tt,tt,tt,tt,tt,tt,tt,tt,ff,ff,ff,ff] rfl rfl (any_of HT_.out (by kernel_rfl)) (fun _ _ _ h => h) (Or.inl ⟨by rfl, ?_⟩) ?_ ?_
                         rotate_left
                         ·intro w'; go_simp; with_reducible rfl
                         rotate_left
                         ·(simp only [Act.put, sia_, sz_, ss_, i64_w, i32_w]); rfl
                         refine pure_ (i := 11) (N := some 139) (v := ?_) (a' := ?_) #[tt,tt,tt,tt,tt,tt,tt,tt,tt,tt,tt,tt,ff,ff,ff] rfl rfl (any_of HT_.out (by kernel_rfl)) (fun _ _ _ h => h) (Or.inl ⟨by rfl, ?_⟩) ?_ ?_
                         rotate_left
                         ·intro w'; go_simp; with_reducible rfl
                         rotate_left
                         ·(simp only [Act.put, sia_, sz_, ss_, i64_w, i32_w]); rfl
                         refine take_ (i := 12) (N := some 140) (v := ?_) (a' := ?_) #[tt,tt,tt,tt,tt,tt,tt,tt,tt,tt,tt,tt,tt,ff,ff] rfl rfl (take_ofW HT_.out HW_.out (by kernel_rfl)) (fun _ _ _ h => h) (Or.inl ⟨by rfl, ?_⟩) hHeld ?_ ?_
                         rotate_left
                         ·(rintro w' ⟨s0, s1, s2, s3, s4, s5⟩); go_simp; with_reducible rfl
                         rotate_left
                         ·(simp only [Act.put, sia_, sz_, ss_, i64_w, i32_w]); rfl
                         refine last_ (i := 13) (N := some 141) #[tt,tt,tt,tt,tt,tt,tt,tt,tt,tt,tt,tt,tt,tt,ff] rfl rfl (one_of HT_.out (by kernel_rfl)) (by decide) (fun K hK => ?_)
                         (refine goes_ Try.func61 (by kernel_rfl) rfl #[.slice A2 l2.length c2, .agg #[.int .i64 t600, .int .i64 t601, .int .i64 t602, .int .i64 t603], .int .i64 x1001_3, .int .i64 x1002_3] (by rfl) rfl rfl (by (try simp only [List.map_toArray, List.map_cons, List.map_nil]); first | done | rfl | (simp only [List.length_drop, List.length_take]; rfl)) ?_); (with_reducible refine (spec_l30Fits.calls k5 _ _ l2 t600 t601 t602 t603 x1001_3 x1002_3 true _ ?side1 ?side2 A39.out).mono ?_); ((case side1 => exact kbC_foot_now HR2.out (by repeat (first | (with_reducible first | exact HK.out | apply KB.set_ | apply kb_drewN | apply kb_drew | apply kb_alloc | refine kb_far ?_ GW604.out _) | exact HK.out)))); ((case side2 => exact HC2.out)); (rintro e w49 ⟨rfl, hb⟩); (refine ⟨_, rfl, ?_⟩); (have n0_ := A0_ (blk_below (g := gb604) (o := .cells #[.int .i64 t600, .int .i64 t601, .int .i64 t602, .int .i64 t603] 24 (0, 0)) (by (with_reducible repeat (first | apply gn_ | apply gd_ | apply ga_)); exact BK604.out) hb); have n1_ := A0_ (IsV.below (by repeat (first | (with_reducible first | exact HI0.out | apply IsV.alloc | apply IsV.drewN | apply IsV.drew | apply IsV.set_3 | apply IsV.set_6 | refine IsV.store4 ?_ NB0_604.out BK604.out (by decide) (by decide) _ _ _ _) | exact HI0.out)) hb); have n2_ := A0_ (KB.trans (by repeat (first | (with_reducible first | exact HK.out | apply KB.set_ | apply kb_drewN | apply kb_drew | apply kb_alloc | refine kb_far ?_ GW604.out _) | exact HK.out)) (KeepBut.of_below hb g none) (.inl rfl)); have n3_ := A0_ (below_step (by repeat (first | (with_reducible first | exact HB.out | apply ba_ | apply bn_ | apply bd_ | refine below_set ?_ (IsV.ge HI0.out) | refine below_set ?_ GE604.out) | exact HB.out)) hb); clear BK604; clear HI0; clear HK; clear HB; have BK604 := n0_; have HI0 := n1_; have HK := n2_; have HB := n3_; clear n0_ n1_ n2_ n3_); clear hb; (refine hK.out _ _ ?_); clear hK K; (refine norm_ (a' := ?_) ?_ ?_); rotate_left
                         ·(show Act.put _ (some 141) _ = _); (simp only [Act.put, sia_, sz_, ss_, i64_w, i32_w]); rfl
                         refine pure_ (i := 14) (N := some 142) (v := ?_) (a' := ?_) #[tt,tt,tt,tt,tt,tt,tt,tt,tt,tt,tt,tt,tt,tt,tt] rfl rfl (any_of HT_.out (by kernel_rfl)) (fun _ _ _ h => h) (Or.inl ⟨by rfl, ?_⟩) ?_ ?_
                         rotate_left
                         ·intro w'; go_simp; with_reducible rfl
                         rotate_left
                         ·(simp only [Act.put, sia_, sz_, ss_, i64_w, i32_w]); rfl
                         (refine done_ (done_of HT_.out (by kernel_rfl)) ?_); clear hs1_ hs2_; (try go_wp2); (have n0_ := A0_ (blk_drew BK604.out)); (have n1_ := A0_ (IsV.drew HI0.out)); (have n2_ := A0_ (kb_drew HK.out)); (have n3_ := A0_ (below_drew1 HB.out)); clear BK604; clear HI0; clear HK; clear HB; (have BK604 := n0_); (have HI0 := n1_); (have HK := n2_); (have HB := n3_); clear n0_ n1_ n2_ n3_
                         refine start_ (n := 16) (S := fun w' => True) (ds := []) #[ff,ff,ff,ff,ff,ff,ff,ff,ff,ff,ff,ff,ff,ff,ff,ff] (by kernel_rfl) rfl rfl trivial (fun hHeld => ?_); refine with_tabW spec_l30Visit.tab23 spec_l30Visit.bits23 (fun HT_ HW_ => ?_)
                         (generalize w49.drew = w50 at BK604 HI0 HK HB hHeld ⊢); (have HS50 := A0_ (kb_size HK.out)); (have HZ50 := A0_ HB.out.size)
                         refine pure_ (i := 0) (N := some 143) (v := ?_) (a' := ?_) #[tt,ff,ff,ff,ff,ff,ff,ff,ff,ff,ff,ff,ff,ff,ff,ff] rfl rfl (any_of HT_.out (by kernel_rfl)) (fun _ _ _ h => h) (Or.inl ⟨by rfl, ?_⟩) ?_ ?_
                         rotate_left
                         ·intro w'; go_simp; with_reducible rfl
                         rotate_left
                         ·(simp only [Act.put, sia_, sz_, ss_, i64_w, i32_w]); rfl
                         refine pure_ (i := 2) (N := some 145) (v := ?_) (a' := ?_) #[tt,ff,tt,ff,ff,ff,ff,ff,ff,ff,ff,ff,ff,ff,ff,ff] rfl rfl (any_of HT_.out (by kernel_rfl)) (fun _ _ _ h => h) (Or.inl ⟨by rfl, ?_⟩) ?_ ?_
                         rotate_left
                         ·intro w'; go_simp; with_reducible rfl
                         rotate_left
                         ·(simp only [Act.put, sia_, sz_, ss_, i64_w, i32_w]); rfl
                         refine pure_ (i := 4) (N := some 147) (v := ?_) (a' := ?_) #[tt,ff,tt,ff,tt,ff,ff,ff,ff,ff,ff,ff,ff,ff,ff,ff] rfl rfl (any_of HT_.out (by kernel_rfl)) (fun _ _ _ h => h) (Or.inl ⟨by rfl, ?_⟩) ?_ ?_
                         rotate_left
                         ·intro w'; go_simp; with_reducible rfl
                         rotate_left
                         ·(simp only [Act.put, sia_, sz_, ss_, i64_w, i32_w]); rfl
                         refine pure_ (i := 5) (N := some 148) (v := ?_) (a' := ?_) #[tt,ff,tt,ff,tt,tt,ff,ff,ff,ff,ff,ff,ff,ff,ff,ff] rfl rfl (any_of HT_.out (by kernel_rfl)) (fun _ _ _ h => h) (Or.inl ⟨by rfl, ?_⟩) ?_ ?_
                         rotate_left
                         ·intro w'; go_simp; with_reducible rfl
                         rotate_left
                         ·(simp only [Act.put, sia_, sz_, ss_, i64_w, i32_w]); rfl
                         refine pure_ (i := 10) (N := some 153) (v := ?_) (a' := ?_) #[tt,ff,tt,ff,tt,tt,ff,ff,ff,ff,tt,ff,ff,ff,ff,ff] rfl rfl (any_of HT_.out (by kernel_rfl)) (fun _ _ _ h => h) (Or.inl ⟨by rfl, ?_⟩) ?_ ?_
                         rotate_left
                         ·intro w'; go_simp; with_reducible rfl
                         rotate_left
                         ·(simp only [Act.put, sia_, sz_, ss_, i64_w, i32_w]); rfl
                         refine inv_at [1, 3, 6, 7, 8, 9, 11, 12, 13, 14, 15] (fun a0_ b a w' => ∃ (v1_ : Value) (v3_ : Value) (v7_ : Value) (v8_ : Value) (v9_ : Value) (v11_ : Value) (v13_ : Value) (v14_ : Value), a = putSel a0_ b [(1, 144, v1_), (3, 146, v3_), (6, 149, .agg #[.int .i64 x6_1, .int .i64 x9_3]), (7, 150, v7_), (8, 151, v8_), (9, 152, v9_), (11, 154, v11_), (12, 155, .agg #[.int .i64 t600, .int .i64 t601, .int .i64 t602, .int .i64 t603]), (13, 156, v13_), (14, 157, v14_), (15, 158, .tuple #[])] ∧ (w'.heap[gb604]? = some (.cells #[.int .i64 t600, .int .i64 t601, .int .i64 t602, .int .i64 t603] 24 (0, 0))) ∧ (b 15 = false → IsB w50.heap.size w0 w' g s0_0 x1001_3 x1002_3 x1003_3 x1004_3 x1005_3 x1006_3) ∧ (KB w w' g none) ∧ (Below w0.heap.size w0 w') ∧ (b 1 = true → b 3 = false → Kd.R k74 74 w' w50.heap.size (fun _ => True) v1_ y611) ∧ (b 3 = true → b 8 = false → Kd.R k74 74 w' w50.heap.size (fun _ => True) v3_ y614) ∧ (b 7 = true → b 8 = false → Kd.R k74 74 w' w50.heap.size (fun k_ => (b 1 = true → b 3 = false → some k_ ≠ (v1_ : Value).ownBlock) ∧ (b 3 = true → b 8 = false → some k_ ≠ (v3_ : Value).ownBlock)) v7_ y617) ∧ (b 8 = true → b 15 = false → Kd.R k74 74 w' w50.heap.size (fun _ => True) v8_ y620) ∧ (b 9 = true → b 11 = false → Kd.R k24 24 w' w50.heap.size (fun k_ => k_ ≠ gb604) v9_ y623) ∧ (b 11 = true → b 14 = false → Kd.R k24 24 w' w50.heap.size (fun k_ => k_ ≠ gb604) v11_ y626) ∧ (b 13 = true → b 14 = false → Kd.R k24 24 w' w50.heap.size (fun k_ => (b 9 = true → b 11 = false → some k_ ≠ (v9_ : Value).ownBlock) ∧ (b 11 = true → b 14 = false → some k_ ≠ (v11_ : Value).ownBlock)) v13_ y629) ∧ (b 14 = true → b 15 = false → Kd.R k24 24 w' w50.heap.size (fun k_ => k_ ≠ gb604) v14_ y632) ∧ (b 15 = true → IsS84 w0 w' g s0_0 t635 t636 t637 t638 t639 t640)) HT_.out HW_.out (by kernel_rfl) (by kernel_rfl) ?_ ?_ ?_
                         ·exact ⟨.bool false, .bool false, .bool false, .bool false, .bool false, .bool false, .bool false, .bool false, by simp only [putSel, Bool.false_eq_true, if_false], BK604.out, fun _ => IsB.of HI0.out, HK.out, HB.out, fun h_ => absurd h_ (by decide), fun h_ => absurd h_ (by decide), fun h_ => absurd h_ (by decide), fun h_ => absurd h_ (by decide), fun h_ => absurd h_ (by decide), fun h_ => absurd h_ (by decide), fun h_ => absurd h_ (by decide), fun h_ => absurd h_ (by decide), fun h_ => absurd h_ (by decide)⟩
                         ·skip; clear BK604 HB HI0 HK; (refine steps_cons ?_ ?_)
                          ·(rintro b a w' ⟨v1_, v3_, v7_, v8_, v9_, v11_, v13_, v14_, ha, Q_BK, Q_HI, Q_HKf, Q_HBf, Q_P1, Q_P3, Q_L7, Q_P8, Q_C9, Q_C11, Q_L13, Q_C14, Q_HJ⟩ hb_ hon hoff)
                           refine ⟨_, rfl, fun K hK => ?_⟩
                           (replace ha := A0_ ha); (have BK604 := A0_ Q_BK); (have HI0 := A0_ (Q_HI (hoff 15 (by kernel_rfl)))); (have HK := A0_ Q_HKf); (have HB := A0_ Q_HBf)
                           refine Kd.R_lit_step k74 _ 74 ?hg (N := 144) ?hd (xs := ([] : List (S74))) (inner := []) (ok := fun _ => True) (okp := fun _ => False) ?hr ?hp (fun _ hk => hk.elim) trivial (Below.refl _ _) (Nat.le_refl _) (by simp) ?_; (case hd => rfl); (case hg => rfl); (case hr => first | (go_simp; done) | (go_simp; rfl)); (case hp => exact (Reps.none _ _))
                           intro u_ w51 ho hb hg_ hnew_; ((first | rw [← Ny611.out] at ho | (simp only [Int.reduceToNat] at ho; rw [← Ny611.out] at ho))); (have ho := Kd.R_lower ho (IsB.size HI0.out))
                           refine hK.out _ _ ⟨u_, v3_, v7_, v8_, v9_, v11_, v13_, v14_, (by rw [ha.out]; exact putSel_upk 0 hb_ rfl rfl rfl), blk_below BK604.out hb, fun _ => IsB.below HI0.out hb, KB.trans HK.out (KeepBut.of_below hb g none) (.inl rfl), below_step HB.out hb, fun _ _ => ho, fun h0_ _ => absurd ((hoff 3 (by kernel_rfl)).symm.trans h0_) (by decide), fun h0_ h1_ => Kd.R_mono (L_new (Q_L7 h0_ h1_) hb hnew_) (fun k hk => ⟨fun _ _ => hk.2, hk.1.2⟩), fun h0_ _ => absurd ((hoff 8 (by kernel_rfl)).symm.trans h0_) (by decide), fun h0_ h1_ => Kd.R_below (Q_C9 h0_ h1_) hb, fun h0_ _ => absurd ((hoff 11 (by kernel_rfl)).symm.trans h0_) (by decide), fun h0_ h1_ => Kd.R_below (Q_L13 h0_ h1_) hb, fun h0_ _ => absurd ((hoff 14 (by kernel_rfl)).symm.trans h0_) (by decide), fun h0_ => absurd ((hoff 15 (by kernel_rfl)).symm.trans h0_) (by decide)⟩
                          (refine steps_cons ?_ ?_)
                          ·(rintro b a w' ⟨v1_, v3_, v7_, v8_, v9_, v11_, v13_, v14_, ha, Q_BK, Q_HI, Q_HKf, Q_HBf, Q_P1, Q_P3, Q_L7, Q_P8, Q_C9, Q_C11, Q_L13, Q_C14, Q_HJ⟩ hb_ hon hoff)
                           refine ⟨_, rfl, fun K hK => ?_⟩
                           (have e144 : a.tmps[144]? = some (v1_) := by rw [ha]; exact putSel_on (e := (1, 144, v1_)) 0 rfl rfl (hon 1 (by kernel_rfl)) rfl); (have e145 : a.tmps[145]? = some (.slice A1 l1.length c1) := by rw [ha]; exact (putSel_off rfl).trans rfl); (replace ha := A0_ ha); (have BK604 := A0_ Q_BK); (have HI0 := A0_ (Q_HI (hoff 15 (by kernel_rfl)))); (have HK := A0_ Q_HKf); (have HB := A0_ Q_HBf); (have P1 := A0_ (Q_P1 (hon 1 (by kernel_rfl)) hb_)); (have s144_ : a.eval (.tmp 144) = (v1_) := by simp only [Act.eval, Array.getD_eq_getD_getElem?, e144, Option.getD_some]); (have s145_ : a.eval (.tmp 145) = (.slice A1 l1.length c1) := by simp only [Act.eval, Array.getD_eq_getD_getElem?, e145, Option.getD_some])
                           refine Kd.R_append_rows_step k74 w50.heap.size (by rfl) (.tmp 144) (.tmp 145) 51 74 (.agg #[(.int .i64 0), (.int .i64 0)]) 16 rfl Try.underlying51 info74 rfl (by decide) (by omega) v1_ y611 l1 _ _ _ (fun _ => True) (fun _ => False) s144_ s145_ ?aO ?aR (fun _ _ h => h) (fun _ h => h.elim) ?aF (Below.refl _ _) ?aS ?aL ?_
                           ((case aR => exact kbC_foot_now HR1.out HK.out))
                           (case aF => exact (fun _ _ => trivial))
                           ((case aO => exact P1.out)); ((case aS => exact (IsB.size HI0.out))); ((case aL => have := LMc41.out; omega)); intro u_ w54 ho hb hg hat; (rw [← Ny614.out] at ho)
                           refine hK.out _ _ ⟨v1_, u_, v7_, v8_, v9_, v11_, v13_, v14_, (by rw [ha.out]; exact putSel_upk 1 hb_ rfl rfl rfl), blk_grown BK604.out hg (Kd.R_ne P1.out BK604.out (by decide)), fun _ => IsB.grown HI0.out hg (IsB.own_ne HI0.out P1.out (by decide)) (Kd.R_base2 P1.out), KB.transS HK.out (KeepBut.of_grown hg g) (Kd.R_base2 P1.out) HS50.out, below_weaken HB.out HZ50.out hb, fun _ h1_ => absurd ((up_self b 3).symm.trans h1_) (by decide), fun _ _ => ho, fun h0_ h1_ => Kd.R_mono (Kd.R_after (ok := fun _ => True) (Kd.R_mono (Q_L7 h0_ h1_) (fun k hk => ⟨trivial, hk.1 (hon 1 (by kernel_rfl)) hb_⟩)) hg hat) (fun k hk => ⟨fun _ h_ => absurd ((up_self b 3).symm.trans h_) (by decide), fun _ _ => hk.2⟩), fun h0_ _ => absurd ((hoff 8 (by kernel_rfl)).symm.trans h0_) (by decide), fun h0_ h1_ => Kd.R_over' (Q_C9 h0_ h1_) (Kd.R_typed P1.out) (by decide) hg, fun h0_ _ => absurd ((hoff 11 (by kernel_rfl)).symm.trans h0_) (by decide), fun h0_ h1_ => Kd.R_over' (Q_L13 h0_ h1_) (Kd.R_typed P1.out) (by decide) hg, fun h0_ _ => absurd ((hoff 14 (by kernel_rfl)).symm.trans h0_) (by decide), fun h0_ => absurd ((hoff 15 (by kernel_rfl)).symm.trans h0_) (by decide)⟩
                          (refine steps_cons ?_ ?_)
                          ·(rintro b a w' ⟨v1_, v3_, v7_, v8_, v9_, v11_, v13_, v14_, ha, Q_BK, Q_HI, Q_HKf, Q_HBf, Q_P1, Q_P3, Q_L7, Q_P8, Q_C9, Q_C11, Q_L13, Q_C14, Q_HJ⟩ hb_ hon hoff)
                           refine ⟨_, rfl, fun K hK => ?_⟩
                           (have e147 : a.tmps[147]? = some (.int .i64 x6_1) := by rw [ha]; exact (putSel_off rfl).trans rfl); (have e148 : a.tmps[148]? = some (.int .i64 x9_3) := by rw [ha]; exact (putSel_off rfl).trans rfl); (replace ha := A0_ ha); (have BK604 := A0_ Q_BK); (have HI0 := A0_ (Q_HI (hoff 15 (by kernel_rfl)))); (have HK := A0_ Q_HKf); (have HB := A0_ Q_HBf); (refine value_ (w1 := w') (v := .agg #[.int .i64 x6_1, .int .i64 x9_3]) (by rfl) rfl ?_ ?_)
                           ·go_simp; ((try simp only [i64_w])); (try rfl)
                           refine hK.out _ _ ⟨v1_, v3_, v7_, v8_, v9_, v11_, v13_, v14_, (by rw [ha.out]; exact putSel_upk 2 hb_ rfl rfl rfl), Q_BK, Q_HI, Q_HKf, Q_HBf, Q_P1, Q_P3, fun h0_ _ => absurd ((hoff 7 (by kernel_rfl)).symm.trans h0_) (by decide), fun h0_ _ => absurd ((hoff 8 (by kernel_rfl)).symm.trans h0_) (by decide), Q_C9, fun h0_ _ => absurd ((hoff 11 (by kernel_rfl)).symm.trans h0_) (by decide), Q_L13, fun h0_ _ => absurd ((hoff 14 (by kernel_rfl)).symm.trans h0_) (by decide), fun h0_ => absurd ((hoff 15 (by kernel_rfl)).symm.trans h0_) (by decide)⟩
                          (refine steps_cons ?_ ?_)
                          ·(rintro b a w' ⟨v1_, v3_, v7_, v8_, v9_, v11_, v13_, v14_, ha, Q_BK, Q_HI, Q_HKf, Q_HBf, Q_P1, Q_P3, Q_L7, Q_P8, Q_C9, Q_C11, Q_L13, Q_C14, Q_HJ⟩ hb_ hon hoff)
                           refine ⟨_, rfl, fun K hK => ?_⟩
                           (have e149 : a.tmps[149]? = some (.agg #[.int .i64 x6_1, .int .i64 x9_3]) := by rw [ha]; exact putSel_on (e := (6, 149, .agg #[.int .i64 x6_1, .int .i64 x9_3])) 2 rfl rfl (hon 6 (by kernel_rfl)) rfl); (replace ha := A0_ ha); (have BK604 := A0_ Q_BK); (have HI0 := A0_ (Q_HI (hoff 15 (by kernel_rfl)))); (have HK := A0_ Q_HKf); (have HB := A0_ Q_HBf)
                           refine Kd.R_lit_step k74 _ 74 ?hg (N := 150) ?hd (xs := ([(⟨x6_1, x9_3⟩ : S74)] : List (S74))) (inner := [.int .i64 x6_1, .int .i64 x9_3]) (ok := fun k_ => w'.heap.size ≤ k_) (okp := fun _ => False) ?hr ?hp (fun _ hk => hk.elim) (Nat.le_refl _) (Below.refl _ _) (Nat.le_refl _) (by simp) ?_; (case hd => rfl); (case hg => rfl); (case hr => first | (go_simp; done) | (go_simp; rfl)); (case hp => exact (Reps.c2 (show Kd.M k74 _ _ _ (⟨x6_1, x9_3⟩ : S74) [.int .i64 x6_1, .int .i64 x9_3] from (k74_mkM _ _ _ (⟨x6_1, x9_3⟩ : S74) )) (Reps.none _ _)))
                           intro u_ w51 ho hb hg_ hnew_; ((first | rw [← Ny617.out] at ho | (simp only [Int.reduceToNat] at ho; rw [← Ny617.out] at ho))); (have ho := Kd.R_lower ho (IsB.size HI0.out))
                           refine hK.out _ _ ⟨v1_, v3_, u_, v8_, v9_, v11_, v13_, v14_, (by rw [ha.out]; exact putSel_upk 3 hb_ rfl rfl rfl), blk_below BK604.out hb, fun _ => IsB.below HI0.out hb, KB.trans HK.out (KeepBut.of_below hb g none) (.inl rfl), below_step HB.out hb, fun h0_ h1_ => Kd.R_below (Q_P1 h0_ h1_) hb, fun h0_ h1_ => Kd.R_below (Q_P3 h0_ h1_) hb, fun _ _ => Kd.R_mono ho (fun k hk => ⟨fun h1_ h3_ => Kd.fresh' (Kd.R_lt (Q_P1 h1_ h3_)) k hk, fun h3_ h8_ => Kd.fresh' (Kd.R_lt (Q_P3 h3_ h8_)) k hk⟩), fun h0_ _ => absurd ((hoff 8 (by kernel_rfl)).symm.trans h0_) (by decide), fun h0_ h1_ => Kd.R_below (Q_C9 h0_ h1_) hb, fun h0_ _ => absurd ((hoff 11 (by kernel_rfl)).symm.trans h0_) (by decide), fun h0_ h1_ => Kd.R_below (Q_L13 h0_ h1_) hb, fun h0_ _ => absurd ((hoff 14 (by kernel_rfl)).symm.trans h0_) (by decide), fun h0_ => absurd ((hoff 15 (by kernel_rfl)).symm.trans h0_) (by decide)⟩
                          (refine steps_cons ?_ ?_)
                          ·(rintro b a w' ⟨v1_, v3_, v7_, v8_, v9_, v11_, v13_, v14_, ha, Q_BK, Q_HI, Q_HKf, Q_HBf, Q_P1, Q_P3, Q_L7, Q_P8, Q_C9, Q_C11, Q_L13, Q_C14, Q_HJ⟩ hb_ hon hoff)
                           refine ⟨_, rfl, fun K hK => ?_⟩
                           (have e146 : a.tmps[146]? = some (v3_) := by rw [ha]; exact putSel_on (e := (3, 146, v3_)) 1 rfl rfl (hon 3 (by kernel_rfl)) rfl); (have e150 : a.tmps[150]? = some (v7_) := by rw [ha]; exact putSel_on (e := (7, 150, v7_)) 3 rfl rfl (hon 7 (by kernel_rfl)) rfl); (replace ha := A0_ ha); (have BK604 := A0_ Q_BK); (have HI0 := A0_ (Q_HI (hoff 15 (by kernel_rfl)))); (have HK := A0_ Q_HKf); (have HB := A0_ Q_HBf); (have P3 := A0_ (Q_P3 (hon 3 (by kernel_rfl)) hb_)); (have L7 := A0_ (Q_L7 (hon 7 (by kernel_rfl)) hb_)); (obtain ⟨Ao7, co7, eo7⟩ := Kd.R_slice L7.out); ((first | subst eo7 | (injection eo7 with f1_ f2_ f3_; have f4_ := f1_.symm; have f5_ := f3_.symm; clear f1_ f2_ f3_; subst f4_; subst f5_))); (have s146_ : a.eval (.tmp 146) = (v3_) := by simp only [Act.eval, Array.getD_eq_getD_getElem?, e146, Option.getD_some]); (have s150_ : a.eval (.tmp 150) = (.slice Ao7 y617.length co7) := by simp only [Act.eval, Array.getD_eq_getD_getElem?, e150, Option.getD_some])
                           refine Kd.R_append_rows_step k74 w50.heap.size (by rfl) (.tmp 146) (.tmp 150) 51 74 (.agg #[(.int .i64 0), (.int .i64 0)]) 16 rfl Try.underlying51 info74 rfl (by decide) (by omega) v3_ y614 y617 _ _ _ (fun _ => True) (fun _ => False) s146_ s150_ ?aO ?aR (fun _ _ h => h) (fun _ h => h.elim) ?aF (Below.refl _ _) ?aS ?aL ?_
                           ((case aR => exact (Kd.R_reads' L7.out).2.2))
                           (case aF => exact (fun _ _ => trivial))
                           ((case aO => exact P3.out)); ((case aS => exact (IsB.size HI0.out))); ((case aL => have := LMc42.out; omega)); intro u_ w57 ho hb hg hat; (rw [← Ny620.out] at ho)
                           refine hK.out _ _ ⟨v1_, v3_, .slice Ao7 y617.length co7, u_, v9_, v11_, v13_, v14_, (by rw [ha.out]; exact putSel_upk 4 hb_ rfl rfl rfl), blk_grown BK604.out hg (Kd.R_ne P3.out BK604.out (by decide)), fun _ => IsB.grown HI0.out hg (IsB.own_ne HI0.out P3.out (by decide)) (Kd.R_base2 P3.out), KB.transS HK.out (KeepBut.of_grown hg g) (Kd.R_base2 P3.out) HS50.out, below_weaken HB.out HZ50.out hb, fun _ h1_ => absurd ((hon 3 (by kernel_rfl)).symm.trans h1_) (by decide), fun _ h1_ => absurd ((up_self b 8).symm.trans h1_) (by decide), fun _ h1_ => absurd ((up_self b 8).symm.trans h1_) (by decide), fun _ _ => ho, fun h0_ h1_ => Kd.R_over' (Q_C9 h0_ h1_) (Kd.R_typed P3.out) (by decide) hg, fun h0_ _ => absurd ((hoff 11 (by kernel_rfl)).symm.trans h0_) (by decide), fun h0_ h1_ => Kd.R_over' (Q_L13 h0_ h1_) (Kd.R_typed P3.out) (by decide) hg, fun h0_ _ => absurd ((hoff 14 (by kernel_rfl)).symm.trans h0_) (by decide), fun h0_ => absurd ((hoff 15 (by kernel_rfl)).symm.trans h0_) (by decide)⟩
                          (refine steps_cons ?_ ?_)
                          ·(rintro b a w' ⟨v1_, v3_, v7_, v8_, v9_, v11_, v13_, v14_, ha, Q_BK, Q_HI, Q_HKf, Q_HBf, Q_P1, Q_P3, Q_L7, Q_P8, Q_C9, Q_C11, Q_L13, Q_C14, Q_HJ⟩ hb_ hon hoff)
                           refine ⟨_, rfl, fun K hK => ?_⟩
                           (replace ha := A0_ ha); (have BK604 := A0_ Q_BK); (have HI0 := A0_ (Q_HI (hoff 15 (by kernel_rfl)))); (have HK := A0_ Q_HKf); (have HB := A0_ Q_HBf)
                           refine Kd.R_lit_step k24 _ 24 ?hg (N := 152) ?hd (xs := ([] : List (S24))) (inner := []) (ok := fun k_ => k_ ≠ gb604) (okp := fun _ => False) ?hr ?hp (fun _ hk => hk.elim) (Kd.freshB (g := gb604) (o := .cells #[.int .i64 t600, .int .i64 t601, .int .i64 t602, .int .i64 t603] 24 (0, 0)) BK604.out _ (Nat.le_refl _)) (Below.refl _ _) (Nat.le_refl _) (by simp) ?_; (case hd => rfl); (case hg => rfl); (case hr => first | (go_simp; done) | (go_simp; rfl)); (case hp => exact (Reps.none _ _))
                           intro u_ w51 ho hb hg_ hnew_; ((first | rw [← Ny623.out] at ho | (simp only [Int.reduceToNat] at ho; rw [← Ny623.out] at ho))); (have ho := Kd.R_lower ho (IsB.size HI0.out))
                           refine hK.out _ _ ⟨v1_, v3_, v7_, v8_, u_, v11_, v13_, v14_, (by rw [ha.out]; exact putSel_upk 5 hb_ rfl rfl rfl), blk_below BK604.out hb, fun _ => IsB.below HI0.out hb, KB.trans HK.out (KeepBut.of_below hb g none) (.inl rfl), below_step HB.out hb, fun h0_ h1_ => Kd.R_below (Q_P1 h0_ h1_) hb, fun h0_ h1_ => Kd.R_below (Q_P3 h0_ h1_) hb, fun h0_ h1_ => Kd.R_below (Q_L7 h0_ h1_) hb, fun h0_ h1_ => Kd.R_below (Q_P8 h0_ h1_) hb, fun _ _ => ho, fun h0_ _ => absurd ((hoff 11 (by kernel_rfl)).symm.trans h0_) (by decide), fun h0_ h1_ => Kd.R_mono (L_new (Q_L13 h0_ h1_) hb hnew_) (fun k hk => ⟨fun _ _ => hk.2, hk.1.2⟩), fun h0_ _ => absurd ((hoff 14 (by kernel_rfl)).symm.trans h0_) (by decide), fun h0_ => absurd ((hoff 15 (by kernel_rfl)).symm.trans h0_) (by decide)⟩
                          (refine steps_cons ?_ ?_)
                          ·(rintro b a w' ⟨v1_, v3_, v7_, v8_, v9_, v11_, v13_, v14_, ha, Q_BK, Q_HI, Q_HKf, Q_HBf, Q_P1, Q_P3, Q_L7, Q_P8, Q_C9, Q_C11, Q_L13, Q_C14, Q_HJ⟩ hb_ hon hoff)
                           refine ⟨_, rfl, fun K hK => ?_⟩
                           (have e152 : a.tmps[152]? = some (v9_) := by rw [ha]; exact putSel_on (e := (9, 152, v9_)) 5 rfl rfl (hon 9 (by kernel_rfl)) rfl); (have e153 : a.tmps[153]? = some (.slice A2 l2.length c2) := by rw [ha]; exact (putSel_off rfl).trans rfl); (replace ha := A0_ ha); (have BK604 := A0_ Q_BK); (have HI0 := A0_ (Q_HI (hoff 15 (by kernel_rfl)))); (have HK := A0_ Q_HKf); (have HB := A0_ Q_HBf); (have P8 := A0_ (Q_P8 (hon 8 (by kernel_rfl)) (hoff 15 (by kernel_rfl)))); (have C9 := A0_ (Q_C9 (hon 9 (by kernel_rfl)) hb_)); (have s152_ : a.eval (.tmp 152) = (v9_) := by simp only [Act.eval, Array.getD_eq_getD_getElem?, e152, Option.getD_some]); (have s153_ : a.eval (.tmp 153) = (.slice A2 l2.length c2) := by simp only [Act.eval, Array.getD_eq_getD_getElem?, e153, Option.getD_some])
                           refine Kd.R_append_rows_step k24 w50.heap.size (by rfl) (.tmp 152) (.tmp 153) 34 24 (.agg #[(.int .i64 0), (.int .i64 0), (.int .i64 0), (.int .i64 0)]) 32 rfl Try.underlying34 info24 rfl (by decide) (by omega) v9_ y623 l2 _ _ _ (fun k_ => k_ ≠ gb604) (fun _ => False) s152_ s153_ ?aO ?aR (fun _ _ h => h) (fun _ h => h.elim) ?aF (Below.refl _ _) ?aS ?aL ?_
                           ((case aR => exact kbC_foot_now HR2.out HK.out))
                           (case aF => exact (fun k_ hk => Kd.freshB (g := gb604) (o := .cells #[.int .i64 t600, .int .i64 t601, .int .i64 t602, .int .i64 t603] 24 (0, 0)) BK604.out k_ hk))
                           ((case aO => exact C9.out)); ((case aS => exact (IsB.size HI0.out))); ((case aL => have := LMc43.out; omega)); intro u_ w54 ho hb hg hat; (rw [← Ny626.out] at ho)
                           refine hK.out _ _ ⟨v1_, v3_, v7_, v8_, v9_, u_, v13_, v14_, (by rw [ha.out]; exact putSel_upk 6 hb_ rfl rfl rfl), blk_grown BK604.out hg (Kd.R_away C9.out (fun _ hk => hk)), fun _ => IsB.grown HI0.out hg (IsB.own_ne HI0.out C9.out (by decide)) (Kd.R_base2 C9.out), KB.transS HK.out (KeepBut.of_grown hg g) (Kd.R_base2 C9.out) HS50.out, below_weaken HB.out HZ50.out hb, fun _ h1_ => absurd ((hon 3 (by kernel_rfl)).symm.trans h1_) (by decide), fun _ h1_ => absurd ((hon 8 (by kernel_rfl)).symm.trans h1_) (by decide), fun _ h1_ => absurd ((hon 8 (by kernel_rfl)).symm.trans h1_) (by decide), fun _ _ => Kd.R_over' P8.out (Kd.R_typed C9.out) (by decide) hg, fun _ h1_ => absurd ((up_self b 11).symm.trans h1_) (by decide), fun _ _ => ho, fun h0_ h1_ => Kd.R_mono (Kd.R_after (ok := fun _ => True) (Kd.R_mono (Q_L13 h0_ h1_) (fun k hk => ⟨trivial, hk.1 (hon 9 (by kernel_rfl)) hb_⟩)) hg hat) (fun k hk => ⟨fun _ h_ => absurd ((up_self b 11).symm.trans h_) (by decide), fun _ _ => hk.2⟩), fun h0_ _ => absurd ((hoff 14 (by kernel_rfl)).symm.trans h0_) (by decide), fun h0_ => absurd ((hoff 15 (by kernel_rfl)).symm.trans h0_) (by decide)⟩
                          (refine steps_cons ?_ ?_)
                          ·(rintro b a w' ⟨v1_, v3_, v7_, v8_, v9_, v11_, v13_, v14_, ha, Q_BK, Q_HI, Q_HKf, Q_HBf, Q_P1, Q_P3, Q_L7, Q_P8, Q_C9, Q_C11, Q_L13, Q_C14, Q_HJ⟩ hb_ hon hoff)
                           refine ⟨_, rfl, fun K hK => ?_⟩
                           (have e10 : a.tmps[10]? = some (.pointer (some ⟨gb604, 0, none⟩)) := by rw [ha]; exact (putSel_off rfl).trans rfl); (replace ha := A0_ ha); (have BK604 := A0_ Q_BK); (have HI0 := A0_ (Q_HI (hoff 15 (by kernel_rfl)))); (have HK := A0_ Q_HKf); (have HB := A0_ Q_HBf); (have hc0_ : w'.cell? ⟨gb604, 0, none⟩ = some (.int .i64 t600) := (blk_cell BK604.out 0).trans rfl); (have hc1_ : w'.cell? ⟨gb604, 1, none⟩ = some (.int .i64 t601) := (blk_cell BK604.out 1).trans rfl); (have hc2_ : w'.cell? ⟨gb604, 2, none⟩ = some (.int .i64 t602) := (blk_cell BK604.out 2).trans rfl); (have hc3_ : w'.cell? ⟨gb604, 3, none⟩ = some (.int .i64 t603) := (blk_cell BK604.out 3).trans rfl); (refine value_ (w1 := w') (v := .agg #[.int .i64 t600, .int .i64 t601, .int .i64 t602, .int .i64 t603]) (by rfl) rfl ?_ ?_)
                           ·go_simp; ((try simp only [i64_w])); (try rfl)
                           refine hK.out _ _ ⟨v1_, v3_, v7_, v8_, v9_, v11_, v13_, v14_, (by rw [ha.out]; exact putSel_upk 7 hb_ rfl rfl rfl), Q_BK, Q_HI, Q_HKf, Q_HBf, Q_P1, Q_P3, Q_L7, Q_P8, Q_C9, Q_C11, fun h0_ _ => absurd ((hoff 13 (by kernel_rfl)).symm.trans h0_) (by decide), fun h0_ _ => absurd ((hoff 14 (by kernel_rfl)).symm.trans h0_) (by decide), fun h0_ => absurd ((hoff 15 (by kernel_rfl)).symm.trans h0_) (by decide)⟩
                          (refine steps_cons ?_ ?_)
                          ·(rintro b a w' ⟨v1_, v3_, v7_, v8_, v9_, v11_, v13_, v14_, ha, Q_BK, Q_HI, Q_HKf, Q_HBf, Q_P1, Q_P3, Q_L7, Q_P8, Q_C9, Q_C11, Q_L13, Q_C14, Q_HJ⟩ hb_ hon hoff)
                           refine ⟨_, rfl, fun K hK => ?_⟩
                           (have e155 : a.tmps[155]? = some (.agg #[.int .i64 t600, .int .i64 t601, .int .i64 t602, .int .i64 t603]) := by rw [ha]; exact putSel_on (e := (12, 155, .agg #[.int .i64 t600, .int .i64 t601, .int .i64 t602, .int .i64 t603])) 7 rfl rfl (hon 12 (by kernel_rfl)) rfl); (replace ha := A0_ ha); (have BK604 := A0_ Q_BK); (have HI0 := A0_ (Q_HI (hoff 15 (by kernel_rfl)))); (have HK := A0_ Q_HKf); (have HB := A0_ Q_HBf)
                           refine Kd.R_lit_step k24 _ 24 ?hg (N := 156) ?hd (xs := ([(⟨t600, t601, t602, t603⟩ : S24)] : List (S24))) (inner := [.int .i64 t600, .int .i64 t601, .int .i64 t602, .int .i64 t603]) (ok := fun k_ => w'.heap.size ≤ k_) (okp := fun _ => False) ?hr ?hp (fun _ hk => hk.elim) (Nat.le_refl _) (Below.refl _ _) (Nat.le_refl _) (by simp) ?_; (case hd => rfl); (case hg => rfl); (case hr => first | (go_simp; done) | (go_simp; rfl)); (case hp => exact (Reps.c4 (show Kd.M k24 _ _ _ (⟨t600, t601, t602, t603⟩ : S24) [.int .i64 t600, .int .i64 t601, .int .i64 t602, .int .i64 t603] from (k24_mkM _ _ _ (⟨t600, t601, t602, t603⟩ : S24) )) (Reps.none _ _)))
                           intro u_ w51 ho hb hg_ hnew_; ((first | rw [← Ny629.out] at ho | (simp only [Int.reduceToNat] at ho; rw [← Ny629.out] at ho))); (have ho := Kd.R_lower ho (IsB.size HI0.out))
                           refine hK.out _ _ ⟨v1_, v3_, v7_, v8_, v9_, v11_, u_, v14_, (by rw [ha.out]; exact putSel_upk 8 hb_ rfl rfl rfl), blk_below BK604.out hb, fun _ => IsB.below HI0.out hb, KB.trans HK.out (KeepBut.of_below hb g none) (.inl rfl), below_step HB.out hb, fun h0_ h1_ => Kd.R_below (Q_P1 h0_ h1_) hb, fun h0_ h1_ => Kd.R_below (Q_P3 h0_ h1_) hb, fun h0_ h1_ => Kd.R_below (Q_L7 h0_ h1_) hb, fun h0_ h1_ => Kd.R_below (Q_P8 h0_ h1_) hb, fun h0_ h1_ => Kd.R_below (Q_C9 h0_ h1_) hb, fun h0_ h1_ => Kd.R_below (Q_C11 h0_ h1_) hb, fun _ _ => Kd.R_mono ho (fun k hk => ⟨fun h1_ h3_ => Kd.fresh' (Kd.R_lt (Q_C9 h1_ h3_)) k hk, fun h3_ h8_ => Kd.fresh' (Kd.R_lt (Q_C11 h3_ h8_)) k hk⟩), fun h0_ _ => absurd ((hoff 14 (by kernel_rfl)).symm.trans h0_) (by decide), fun h0_ => absurd ((hoff 15 (by kernel_rfl)).symm.trans h0_) (by decide)⟩
                          (refine steps_cons ?_ ?_)
                          ·(rintro b a w' ⟨v1_, v3_, v7_, v8_, v9_, v11_, v13_, v14_, ha, Q_BK, Q_HI, Q_HKf, Q_HBf, Q_P1, Q_P3, Q_L7, Q_P8, Q_C9, Q_C11, Q_L13, Q_C14, Q_HJ⟩ hb_ hon hoff)
                           refine ⟨_, rfl, fun K hK => ?_⟩
                           (have e154 : a.tmps[154]? = some (v11_) := by rw [ha]; exact putSel_on (e := (11, 154, v11_)) 6 rfl rfl (hon 11 (by kernel_rfl)) rfl); (have e156 : a.tmps[156]? = some (v13_) := by rw [ha]; exact putSel_on (e := (13, 156, v13_)) 8 rfl rfl (hon 13 (by kernel_rfl)) rfl); (replace ha := A0_ ha); (have BK604 := A0_ Q_BK); (have HI0 := A0_ (Q_HI (hoff 15 (by kernel_rfl)))); (have HK := A0_ Q_HKf); (have HB := A0_ Q_HBf); (have P8 := A0_ (Q_P8 (hon 8 (by kernel_rfl)) (hoff 15 (by kernel_rfl)))); (have C11 := A0_ (Q_C11 (hon 11 (by kernel_rfl)) hb_)); (have L13 := A0_ (Q_L13 (hon 13 (by kernel_rfl)) hb_)); (obtain ⟨Ao13, co13, eo13⟩ := Kd.R_slice L13.out); ((first | subst eo13 | (injection eo13 with f1_ f2_ f3_; have f4_ := f1_.symm; have f5_ := f3_.symm; clear f1_ f2_ f3_; subst f4_; subst f5_))); (have s154_ : a.eval (.tmp 154) = (v11_) := by simp only [Act.eval, Array.getD_eq_getD_getElem?, e154, Option.getD_some]); (have s156_ : a.eval (.tmp 156) = (.slice Ao13 y629.length co13) := by simp only [Act.eval, Array.getD_eq_getD_getElem?, e156, Option.getD_some])
                           refine Kd.R_append_rows_step k24 w50.heap.size (by rfl) (.tmp 154) (.tmp 156) 34 24 (.agg #[(.int .i64 0), (.int .i64 0), (.int .i64 0), (.int .i64 0)]) 32 rfl Try.underlying34 info24 rfl (by decide) (by omega) v11_ y626 y629 _ _ _ (fun k_ => k_ ≠ gb604) (fun _ => False) s154_ s156_ ?aO ?aR (fun _ _ h => h) (fun _ h => h.elim) ?aF (Below.refl _ _) ?aS ?aL ?_
                           ((case aR => exact (Kd.R_reads' L13.out).2.2))
                           (case aF => exact (fun k_ hk => Kd.freshB (g := gb604) (o := .cells #[.int .i64 t600, .int .i64 t601, .int .i64 t602, .int .i64 t603] 24 (0, 0)) BK604.out k_ hk))
                           ((case aO => exact C11.out)); ((case aS => exact (IsB.size HI0.out))); ((case aL => have := LMc44.out; omega)); intro u_ w64 ho hb hg hat; (rw [← Ny632.out] at ho)
                           refine hK.out _ _ ⟨v1_, v3_, v7_, v8_, v9_, v11_, .slice Ao13 y629.length co13, u_, (by rw [ha.out]; exact putSel_upk 9 hb_ rfl rfl rfl), blk_grown BK604.out hg (Kd.R_away C11.out (fun _ hk => hk)), fun _ => IsB.grown HI0.out hg (IsB.own_ne HI0.out C11.out (by decide)) (Kd.R_base2 C11.out), KB.transS HK.out (KeepBut.of_grown hg g) (Kd.R_base2 C11.out) HS50.out, below_weaken HB.out HZ50.out hb, fun _ h1_ => absurd ((hon 3 (by kernel_rfl)).symm.trans h1_) (by decide), fun _ h1_ => absurd ((hon 8 (by kernel_rfl)).symm.trans h1_) (by decide), fun _ h1_ => absurd ((hon 8 (by kernel_rfl)).symm.trans h1_) (by decide), fun _ _ => Kd.R_over' P8.out (Kd.R_typed C11.out) (by decide) hg, fun _ h1_ => absurd ((hon 11 (by kernel_rfl)).symm.trans h1_) (by decide), fun _ h1_ => absurd ((up_self b 14).symm.trans h1_) (by decide), fun _ h1_ => absurd ((up_self b 14).symm.trans h1_) (by decide), fun _ _ => ho, fun h0_ => absurd ((hoff 15 (by kernel_rfl)).symm.trans h0_) (by decide)⟩
                          (refine steps_cons ?_ ?_)
                          ·(rintro b a w' ⟨v1_, v3_, v7_, v8_, v9_, v11_, v13_, v14_, ha, Q_BK, Q_HI, Q_HKf, Q_HBf, Q_P1, Q_P3, Q_L7, Q_P8, Q_C9, Q_C11, Q_L13, Q_C14, Q_HJ⟩ hb_ hon hoff)
                           refine ⟨_, rfl, fun K hK => ?_⟩
                           (have e143 : a.tmps[143]? = some (.pointer (some ⟨g, 0, none⟩)) := by rw [ha]; exact (putSel_off rfl).trans rfl); (have e151 : a.tmps[151]? = some (v8_) := by rw [ha]; exact putSel_on (e := (8, 151, v8_)) 4 rfl rfl (hon 8 (by kernel_rfl)) rfl); (have e157 : a.tmps[157]? = some (v14_) := by rw [ha]; exact putSel_on (e := (14, 157, v14_)) 9 rfl rfl (hon 14 (by kernel_rfl)) rfl); (replace ha := A0_ ha); (have BK604 := A0_ Q_BK); (have HI0 := A0_ (Q_HI hb_)); (have HK := A0_ Q_HKf); (have HB := A0_ Q_HBf); (have P8 := A0_ (Q_P8 (hon 8 (by kernel_rfl)) hb_)); (have C14 := A0_ (Q_C14 (hon 14 (by kernel_rfl)) hb_)); (obtain ⟨Ao8, co8, eo8⟩ := Kd.R_slice P8.out); ((first | subst eo8 | (injection eo8 with f1_ f2_ f3_; have f4_ := f1_.symm; have f5_ := f3_.symm; clear f1_ f2_ f3_; subst f4_; subst f5_))); (obtain ⟨Ao14, co14, eo14⟩ := Kd.R_slice C14.out); ((first | subst eo14 | (injection eo14 with f1_ f2_ f3_; have f4_ := f1_.symm; have f5_ := f3_.symm; clear f1_ f2_ f3_; subst f4_; subst f5_))); (refine goes_ Try.func78 (by kernel_rfl) rfl #[.pointer (some ⟨g, 0, none⟩), .slice Ao8 y620.length co8, .slice Ao14 y632.length co14] (by rfl) rfl rfl (by first | (simp only [List.map_toArray, List.map_cons, List.map_nil, Act.eval, Array.getD_eq_getD_getElem?, Option.getD_some, e143, e151, e157]; done) | (simp only [List.map_toArray, List.map_cons, List.map_nil, Act.eval, Array.getD_eq_getD_getElem?, Option.getD_some, e143, e151, e157]; rfl)) ?_); (with_reducible refine (ih k5 (by have := HK1.out; have := HK2.out; have := HK3.out; have := HJ13.out; have := HK5.out; omega) g s0_0 x1001_3 x1002_3 x1003_3 x1004_3 x1005_3 x1006_3 _ _ y620 _ _ y632 t635 t636 t637 t638 t639 t640 w0 _ ?side1 ?side2 ?side3 ?side4 ?side5 ?side6 A45.out).mono ?_); ((case side1 => exact IsB.weak HI0.out)); ((case side2 => exact HB.out))
                           (case side3 => exact kbC_foot_own (IsB.apart HI0.out P8.out (by decide)) (fun _ h_ => h_.2) (by decide))
                           ((case side4 => exact (Kd.R_reads' P8.out).2.1))
                           (case side5 => exact kbC_foot_own (IsB.apart HI0.out C14.out (by decide)) (fun _ h_ => h_.2) (by decide))
                           ((case side6 => exact (Kd.R_reads' C14.out).2.1)); (rintro e w68 ⟨rfl, hi, hb, hk⟩); (refine ⟨_, rfl, ?_⟩)
                           refine hK.out _ _ ⟨v1_, v3_, v7_, .slice Ao8 y620.length co8, v9_, v11_, v13_, .slice Ao14 y632.length co14, (by rw [ha.out]; exact putSel_upk 10 hb_ rfl rfl rfl), KB.blk hk BK604.out NB604_0.out (by decide), fun h0_ => absurd ((up_self b 15).symm.trans h0_) (by decide), KB.then HK.out hk, hb, fun _ h1_ => absurd ((hon 3 (by kernel_rfl)).symm.trans h1_) (by decide), fun _ h1_ => absurd ((hon 8 (by kernel_rfl)).symm.trans h1_) (by decide), fun _ h1_ => absurd ((hon 8 (by kernel_rfl)).symm.trans h1_) (by decide), fun _ h1_ => absurd ((up_self b 15).symm.trans h1_) (by decide), fun _ h1_ => absurd ((hon 11 (by kernel_rfl)).symm.trans h1_) (by decide), fun _ h1_ => absurd ((hon 14 (by kernel_rfl)).symm.trans h1_) (by decide), fun _ h1_ => absurd ((hon 14 (by kernel_rfl)).symm.trans h1_) (by decide), fun _ h1_ => absurd ((up_self b 15).symm.trans h1_) (by decide), fun _ => hi⟩
                          (exact steps_nil)
                         (rintro b a w68 hall ⟨v1_, v3_, v7_, v8_, v9_, v11_, v13_, v14_, ha, Q_BK, Q_HI, Q_HKf, Q_HBf, Q_P1, Q_P3, Q_L7, Q_P8, Q_C9, Q_C11, Q_L13, Q_C14, Q_HJ⟩); clear BK604 HB HI0 HK; (have hb1_ := hall 1 (by kernel_rfl)); (have hb3_ := hall 3 (by kernel_rfl)); (have hb6_ := hall 6 (by kernel_rfl)); (have hb7_ := hall 7 (by kernel_rfl)); (have hb8_ := hall 8 (by kernel_rfl)); (have hb9_ := hall 9 (by kernel_rfl)); (have hb11_ := hall 11 (by kernel_rfl)); (have hb12_ := hall 12 (by kernel_rfl)); (have hb13_ := hall 13 (by kernel_rfl)); (have hb14_ := hall 14 (by kernel_rfl)); (have hb15_ := hall 15 (by kernel_rfl)); subst ha; (simp only [putSel, hb1_, hb3_, hb6_, hb7_, hb8_, hb9_, hb11_, hb12_, hb13_, hb14_, hb15_, if_true, Act.put, List.setIfInBounds_toArray, List.set_cons_zero, List.set_cons_succ]); (have BK604 := A0_ Q_BK); clear Q_BK; clear Q_HI; (have HK := A0_ Q_HKf); clear Q_HKf; (have HB := A0_ Q_HBf); clear Q_HBf; clear Q_P1; clear Q_P3; clear Q_L7; clear Q_P8; clear Q_C9; clear Q_C11; clear Q_L13; clear Q_C14; (have HI0 := A0_ (Q_HJ hb15_)); clear Q_HJ; clear hall hb1_ hb3_ hb6_ hb7_ hb8_ hb9_ hb11_ hb12_ hb13_ hb14_ hb15_; (try go_wp2); (go_roundg k5)
                         case measure => have := HK1.out; have := HK2.out; have := HK3.out; have := HJ13.out; have := HK5.out; omega
                         case rel => exact ⟨(wrap64 (x9_3 + 1)), (t635), (t636), (t637), (t638), (t639), (t640), (by first | rfl | (simp; done) | (simp [*]; done)), H', ⟨by have := HK1.out; have := HK2.out; have := HK3.out; have := HJ13.out; have := HK5.out; omega⟩, ⟨by repeat (first | (with_reducible first | exact HI0.out | apply IsV.alloc | apply IsV.drewN | apply IsV.drew | apply IsV.set_3 | apply IsV.set_6 | refine IsV.store4 ?_ NB0_604.out BK604.out (by decide) (by decide) _ _ _ _) | exact HI0.out)⟩, ⟨by repeat (first | (with_reducible first | exact HK.out | apply KB.set_ | apply kb_drewN | apply kb_drew | apply kb_alloc | refine kb_far ?_ GW604.out _) | exact HK.out)⟩, ⟨by repeat (first | (with_reducible first | exact HB.out | apply ba_ | apply bn_ | apply bd_ | refine below_set ?_ (IsV.ge HI0.out) | refine below_set ?_ GE604.out) | exact HB.out)⟩⟩
                        ·(rw [if_neg c44] at H); (exact absurd H (by simp))
                       ·(rw [if_neg c43] at H); (exact absurd H (by simp))
                      ·(rw [if_neg c42] at H); (exact absurd H (by simp))
                     ·(rw [if_neg c41] at H); (exact absurd H (by simp))
                    ·(replace c40 := Bool.eq_false_iff.mpr c40); subst c40; (have H1 : (spec_l30Visit.l2 k5 l1 l2 x6_1 x7_2 (wrap64 (x9_3 + 1)) s0_0 x1001_3 x1002_3 x1003_3 x1004_3 x1005_3 x1006_3) = some (r1, r2, r3, r4, r5, r6) := by rw [if_neg (show ¬ (false = true) by decide)] at H; exact H); clear H; (have H := H1); clear H1; (have H' := A0_ H); clear H; (have hnb69 := NB604_0.out); (have hnc69 := NB0_604.out); (have hcz70_0 : wr.cell? ⟨gb604, 0, none⟩ = some (.int .i64 t600) := (blk_cell BK604.out 0).trans rfl); (have hcz70_1 : wr.cell? ⟨gb604, 1, none⟩ = some (.int .i64 t601) := (blk_cell BK604.out 1).trans rfl); (have hcz70_2 : wr.cell? ⟨gb604, 2, none⟩ = some (.int .i64 t602) := (blk_cell BK604.out 2).trans rfl); (have hcz70_3 : wr.cell? ⟨gb604, 3, none⟩ = some (.int .i64 t603) := (blk_cell BK604.out 3).trans rfl); (have hfz70_0 := blk_frozen BK604.out 0); (have hfz70_1 := blk_frozen BK604.out 1); (have hfz70_2 := blk_frozen BK604.out 2); (have hfz70_3 := blk_frozen BK604.out 3); (obtain ⟨ASz71_0, cSz71_0, ASz71_4, cSz71_4, HGz71, hgz71, HSz71_0, _⟩ := HI0.out); (have hcz71_0 := cellS84_0 HGz71); (have hcz71_1 := cellS84_1 HGz71); (have hcz71_2 := cellS84_2 HGz71); (have hcz71_3 := cellS84_3 HGz71); (have hcz71_4 := cellS84_4 HGz71); (have hcz71_5 := cellS84_5 HGz71); (have hcz71_6 := cellS84_6 HGz71); (have hfz71_1 := blk_frozen HGz71 1); (have hfz71_2 := blk_frozen HGz71 2); (have hfz71_3 := blk_frozen HGz71 3); (have hfz71_4 := blk_frozen HGz71 4); (have hfz71_5 := blk_frozen HGz71 5); (have hfz71_6 := blk_frozen HGz71 6); clear HGz71 hgz71; go_wp2; (obtain ⟨hs1_, hs2_⟩ := (show (wr.cell? ⟨g, 1, none⟩ = some (.int .i64 x1001_3)) ∧ (wr.cell? ⟨g, 2, none⟩ = some (.int .i64 x1002_3)) from by obtain ⟨_, _, _, _, hb_, _⟩ := HI0.out; exact ⟨cellS84_1 hb_, cellS84_2 hb_⟩)); (have n0_ := A0_ (blk_drew BK604.out)); (have n1_ := A0_ (IsV.drew HI0.out)); (have n2_ := A0_ (kb_drew HK.out)); (have n3_ := A0_ (below_drew1 HB.out)); clear BK604 HI0 HK HB; (have BK604 := n0_); (have HI0 := n1_); (have HK := n2_); (have HB := n3_); clear n0_ n1_ n2_ n3_
                     refine start_ (n := 15) (S := fun w' => w'.cell? ⟨gb604, 0, none⟩ = some (.int .i64 t600) ∧ w'.cell? ⟨gb604, 1, none⟩ = some (.int .i64 t601) ∧ w'.cell? ⟨gb604, 2, none⟩ = some (.int .i64 t602) ∧ w'.cell? ⟨gb604, 3, none⟩ = some (.int .i64 t603) ∧ w'.cell? ⟨g, 1, none⟩ = some (.int .i64 x1001_3) ∧ w'.cell? ⟨g, 2, none⟩ = some (.int .i64 x1002_3)) (ds := [13]) #[ff,ff,ff,ff,ff,ff,ff,ff,ff,ff,ff,ff,ff,ff,ff] (by kernel_rfl) rfl rfl ⟨(blk_cell BK604.out 0).trans rfl, (blk_cell BK604.out 1).trans rfl, (blk_cell BK604.out 2).trans rfl, (blk_cell BK604.out 3).trans rfl, hs1_, hs2_⟩ (fun hHeld => ?_)
                     refine with_tabW spec_l30Visit.tab22 spec_l30Visit.bits22 (fun HT_ HW_ => ?_)
                     refine pure_ (i := 0) (N := some 128) (v := ?_) (a' := ?_) #[tt,ff,ff,ff,ff,ff,ff,ff,ff,ff,ff,ff,ff,ff,ff] rfl rfl (any_of HT_.out (by kernel_rfl)) (fun _ _ _ h => h) (Or.inl ⟨by rfl, ?_⟩) ?_ ?_
                     rotate_left
                     ·intro w'; go_simp; with_reducible rfl
                     rotate_left
                     ·(simp only [Act.put, sia_, sz_, ss_, i64_w, i32_w]); rfl
                     refine pure_ (i := 1) (N := some 129) (v := ?_) (a' := ?_) #[tt,tt,ff,ff,ff,ff,ff,ff,ff,ff,ff,ff,ff,ff,ff] rfl rfl (any_of HT_.out (by kernel_rfl)) (fun _ _ _ h => h) (Or.inl ⟨by rfl, ?_⟩) ?_ ?_
                     rotate_left
                     ·intro w'; go_simp; with_reducible rfl
                     rotate_left
                     ·(simp only [Act.put, sia_, sz_, ss_, i64_w, i32_w]); rfl
                     refine pure_ (i := 2) (N := some 130) (v := ?_) (a' := ?_) #[tt,tt,tt,ff,ff,ff,ff,ff,ff,ff,ff,ff,ff,ff,ff] rfl rfl (any_of HT_.out (by kernel_rfl)) (fun _ _ _ h => h) (Or.inl ⟨by rfl, ?_⟩) ?_ ?_
                     rotate_left
                     ·intro w'; go_simp; with_reducible rfl
                     rotate_left
                     ·(simp only [Act.put, sia_, sz_, ss_, i64_w, i32_w]); rfl
                     refine pure_ (i := 3) (N := some 131) (v := ?_) (a' := ?_) #[tt,tt,tt,tt,ff,ff,ff,ff,ff,ff,ff,ff,ff,ff,ff] rfl rfl (any_of HT_.out (by kernel_rfl)) (fun _ _ _ h => h) (Or.inl ⟨by rfl, ?_⟩) ?_ ?_
                     rotate_left
                     ·intro w'; go_simp; with_reducible rfl
                     rotate_left
                     ·(simp only [Act.put, sia_, sz_, ss_, i64_w, i32_w]); rfl
                     refine take_ (i := 4) (N := some 132) (v := ?_) (a' := ?_) #[tt,tt,tt,tt,tt,ff,ff,ff,ff,ff,ff,ff,ff,ff,ff] rfl rfl (take_ofW HT_.out HW_.out (by kernel_rfl)) (fun _ _ _ h => h) (Or.inl ⟨by rfl, ?_⟩) hHeld ?_ ?_
                     rotate_left
                     ·(rintro w' ⟨s0, s1, s2, s3, s4, s5⟩); go_simp; with_reducible rfl
                     rotate_left
                     ·(simp only [Act.put, sia_, sz_, ss_, i64_w, i32_w]); rfl
                     refine pure_ (i := 5) (N := some 133) (v := ?_) (a' := ?_) #[tt,tt,tt,tt,tt,tt,ff,ff,ff,ff,ff,ff,ff,ff,ff] rfl rfl (any_of HT_.out (by kernel_rfl)) (fun _ _ _ h => h) (Or.inl ⟨by rfl, ?_⟩) ?_ ?_
                     rotate_left
                     ·intro w'; go_simp; with_reducible rfl
                     rotate_left
                     ·(simp only [Act.put, sia_, sz_, ss_, i64_w, i32_w]); rfl
                     refine pure_ (i := 6) (N := some 134) (v := ?_) (a' := ?_) #[tt,tt,tt,tt,tt,tt,tt,ff,ff,ff,ff,ff,ff,ff,ff] rfl rfl (any_of HT_.out (by kernel_rfl)) (fun _ _ _ h => h) (Or.inl ⟨by rfl, ?_⟩) ?_ ?_
                     rotate_left
                     ·intro w'; go_simp; with_reducible rfl
                     rotate_left
                     ·(simp only [Act.put, sia_, sz_, ss_, i64_w, i32_w]); rfl
                     refine pure_ (i := 7) (N := some 135) (v := ?_) (a' := ?_) #[tt,tt,tt,tt,tt,tt,tt,tt,ff,ff,ff,ff,ff,ff,ff] rfl rfl (any_of HT_.out (by kernel_rfl)) (fun _ _ _ h => h) (Or.inl ⟨by rfl, ?_⟩) ?_ ?_
                     rotate_left
                     ·intro w'; go_simp; with_reducible rfl
                     rotate_left
                     ·(simp only [Act.put, sia_, sz_, ss_, i64_w, i32_w]); rfl
                     refine take_ (i := 8) (N := some 136) (v := ?_) (a' := ?_) #[tt,tt,tt,tt,tt,tt,tt,tt,tt,ff,ff,ff,ff,ff,ff] rfl rfl (take_ofW HT_.out HW_.out (by kernel_rfl)) (fun _ _ _ h => h) (Or.inl ⟨by rfl, ?_⟩) hHeld ?_ ?_
                     rotate_left
                     ·(rintro w' ⟨s0, s1, s2, s3, s4, s5⟩); go_simp; with_reducible rfl
                     rotate_left
                     ·(simp only [Act.put, sia_, sz_, ss_, i64_w, i32_w]); rfl
                     refine pure_ (i := 9) (N := some 137) (v := ?_) (a' := ?_) #[tt,tt,tt,tt,tt,tt,tt,tt,tt,tt,ff,ff,ff,ff,ff] rfl rfl (any_of HT_.out (by kernel_rfl)) (fun _ _ _ h => h) (Or.inl ⟨by rfl, ?_⟩) ?_ ?_
                     rotate_left
                     ·intro w'; go_simp; with_reducible rfl
                     rotate_left
                     ·(simp only [Act.put, sia_, sz_, ss_, i64_w, i32_w]); rfl
                     refine pure_ (i := 10) (N := some 138) (v := ?_) (a' := ?_) #[tt,tt,tt,tt,tt,tt,tt,tt,tt,tt,tt,ff,ff,ff,ff] rfl rfl (any_of HT_.out (by kernel_rfl)) (fun _ _ _ h => h) (Or.inl ⟨by rfl, ?_⟩) ?_ ?_
                     rotate_left
                     ·intro w'; go_simp; with_reducible rfl
                     rotate_left
                     ·(simp only [Act.put, sia_, sz_, ss_, i64_w, i32_w]); rfl
                     refine pure_ (i := 11) (N := some 139) (v := ?_) (a' := ?_) #[tt,tt,tt,tt,tt,tt,tt,tt,tt,tt,tt,tt,ff,ff,ff] rfl rfl (any_of HT_.out (by kernel_rfl)) (fun _ _ _ h => h) (Or.inl ⟨by rfl, ?_⟩) ?_ ?_
                     rotate_left
                     ·intro w'; go_simp; with_reducible rfl
                     rotate_left
                     ·(simp only [Act.put, sia_, sz_, ss_, i64_w, i32_w]); rfl
                     refine take_ (i := 12) (N := some 140) (v := ?_) (a' := ?_) #[tt,tt,tt,tt,tt,tt,tt,tt,tt,tt,tt,tt,tt,ff,ff] rfl rfl (take_ofW HT_.out HW_.out (by kernel_rfl)) (fun _ _ _ h => h) (Or.inl ⟨by rfl, ?_⟩) hHeld ?_ ?_
                     rotate_left
                     ·(rintro w' ⟨s0, s1, s2, s3, s4, s5⟩); go_simp; with_reducible rfl
                     rotate_left
                     ·(simp only [Act.put, sia_, sz_, ss_, i64_w, i32_w]); rfl
                     refine last_ (i := 13) (N := some 141) #[tt,tt,tt,tt,tt,tt,tt,tt,tt,tt,tt,tt,tt,tt,ff] rfl rfl (one_of HT_.out (by kernel_rfl)) (by decide) (fun K hK => ?_)
                     (refine goes_ Try.func61 (by kernel_rfl) rfl #[.slice A2 l2.length c2, .agg #[.int .i64 t600, .int .i64 t601, .int .i64 t602, .int .i64 t603], .int .i64 x1001_3, .int .i64 x1002_3] (by rfl) rfl rfl (by (try simp only [List.map_toArray, List.map_cons, List.map_nil]); first | done | rfl | (simp only [List.length_drop, List.length_take]; rfl)) ?_); (with_reducible refine (spec_l30Fits.calls k5 _ _ l2 t600 t601 t602 t603 x1001_3 x1002_3 false _ ?side1 ?side2 A39.out).mono ?_); ((case side1 => exact kbC_foot_now HR2.out (by repeat (first | (with_reducible first | exact HK.out | apply KB.set_ | apply kb_drewN | apply kb_drew | apply kb_alloc | refine kb_far ?_ GW604.out _) | exact HK.out)))); ((case side2 => exact HC2.out)); (rintro e w72 ⟨rfl, hb⟩); (refine ⟨_, rfl, ?_⟩); (have n0_ := A0_ (blk_below (g := gb604) (o := .cells #[.int .i64 t600, .int .i64 t601, .int .i64 t602, .int .i64 t603] 24 (0, 0)) (by (with_reducible repeat (first | apply gn_ | apply gd_ | apply ga_)); exact BK604.out) hb); have n1_ := A0_ (IsV.below (by repeat (first | (with_reducible first | exact HI0.out | apply IsV.alloc | apply IsV.drewN | apply IsV.drew | apply IsV.set_3 | apply IsV.set_6 | refine IsV.store4 ?_ NB0_604.out BK604.out (by decide) (by decide) _ _ _ _) | exact HI0.out)) hb); have n2_ := A0_ (KB.trans (by repeat (first | (with_reducible first | exact HK.out | apply KB.set_ | apply kb_drewN | apply kb_drew | apply kb_alloc | refine kb_far ?_ GW604.out _) | exact HK.out)) (KeepBut.of_below hb g none) (.inl rfl)); have n3_ := A0_ (below_step (by repeat (first | (with_reducible first | exact HB.out | apply ba_ | apply bn_ | apply bd_ | refine below_set ?_ (IsV.ge HI0.out) | refine below_set ?_ GE604.out) | exact HB.out)) hb); clear BK604; clear HI0; clear HK; clear HB; have BK604 := n0_; have HI0 := n1_; have HK := n2_; have HB := n3_; clear n0_ n1_ n2_ n3_); clear hb; (refine hK.out _ _ ?_); clear hK K; (refine norm_ (a' := ?_) ?_ ?_); rotate_left
                     ·(show Act.put _ (some 141) _ = _); (simp only [Act.put, sia_, sz_, ss_, i64_w, i32_w]); rfl
                     refine pure_ (i := 14) (N := some 142) (v := ?_) (a' := ?_) #[tt,tt,tt,tt,tt,tt,tt,tt,tt,tt,tt,tt,tt,tt,tt] rfl rfl (any_of HT_.out (by kernel_rfl)) (fun _ _ _ h => h) (Or.inl ⟨by rfl, ?_⟩) ?_ ?_
                     rotate_left
                     ·intro w'; go_simp; with_reducible rfl
                     rotate_left
                     ·(simp only [Act.put, sia_, sz_, ss_, i64_w, i32_w]); rfl
                     (refine done_ (done_of HT_.out (by kernel_rfl)) ?_); clear hs1_ hs2_; (try go_wp2); (go_roundg k5)
                     case measure => have := HK1.out; have := HK2.out; have := HK3.out; have := HJ13.out; have := HK5.out; omega
                     case rel => exact ⟨(wrap64 (x9_3 + 1)), (x1001_3), (x1002_3), (x1003_3), (x1004_3), (x1005_3), (x1006_3), (by first | rfl | (simp; done) | (simp [*]; done)), H', ⟨by have := HK1.out; have := HK2.out; have := HK3.out; have := HJ13.out; have := HK5.out; omega⟩, ⟨by repeat (first | (with_reducible first | exact HI0.out | apply IsV.alloc | apply IsV.drewN | apply IsV.drew | apply IsV.set_3 | apply IsV.set_6 | refine IsV.store4 ?_ NB0_604.out BK604.out (by decide) (by decide) _ _ _ _) | exact HI0.out)⟩, ⟨by repeat (first | (with_reducible first | exact HK.out | apply KB.set_ | apply kb_drewN | apply kb_drew | apply kb_alloc | refine kb_far ?_ GW604.out _) | exact HK.out)⟩, ⟨by repeat (first | (with_reducible first | exact HB.out | apply ba_ | apply bn_ | apply bd_ | refine below_set ?_ (IsV.ge HI0.out) | refine below_set ?_ GE604.out) | exact HB.out)⟩⟩
               ·(rw [if_neg c22] at H); (exact absurd H (by simp))
              ·(rw [if_neg c21] at H); (exact absurd H (by simp))
             ·(replace c20 := Bool.eq_false_iff.mpr c20); subst c20; (have H1 : (spec_l30Visit.l0 kj13 l1 l2 (wrap64 (x6_1 + 1)) s0_0 x1001_3 x1002_3 x1003_3 x1004_3 x1005_3 x1006_3) = some (r1, r2, r3, r4, r5, r6) := by rw [if_neg (show ¬ (false = true) by decide)] at H; exact H); clear H; (have H := H1); clear H1; (have H' := A0_ H); clear H; go_wp2; (go_roundg kj13)
              case measure => have := HK1.out; have := HK2.out; have := HK3.out; have := HJ13.out; omega
              case rel => exact ⟨(wrap64 (x6_1 + 1)), (x1001_3), (x1002_3), (x1003_3), (x1004_3), (x1005_3), (x1006_3), (by first | rfl | (simp; done) | (simp [*]; done)), H', ⟨by have := HK1.out; have := HK2.out; have := HK3.out; have := HJ13.out; omega⟩, ⟨by repeat (first | (with_reducible first | exact HI0.out | apply IsV.alloc | apply IsV.drewN | apply IsV.drew | apply IsV.set_3 | apply IsV.set_6) | exact HI0.out)⟩, ⟨by repeat (first | (with_reducible first | exact HK.out | apply KB.set_ | apply kb_drewN | apply kb_drew | apply kb_alloc) | exact HK.out)⟩, ⟨by repeat (first | (with_reducible first | exact HB.out | apply ba_ | apply bn_ | apply bd_ | refine below_set ?_ (IsV.ge HI0.out)) | exact HB.out)⟩⟩
     ·(rw [if_neg c9] at H); (have c9b0 : decide (x6_1 < (s0_0.length : Int)) = false := decide_eq_false c9); clear c9; (simp only [Option.some.injEq, Prod.mk.injEq] at H); (obtain ⟨rfl, rfl, rfl, rfl, rfl, rfl⟩ := H); (obtain ⟨ASz73_0, cSz73_0, ASz73_4, cSz73_4, HGz73, hgz73, HSz73_0, _⟩ := HI0.out); (have hcz73_0 := cellS84_0 HGz73); (have hcz73_1 := cellS84_1 HGz73); (have hcz73_2 := cellS84_2 HGz73); (have hcz73_3 := cellS84_3 HGz73); (have hcz73_4 := cellS84_4 HGz73); (have hcz73_5 := cellS84_5 HGz73); (have hcz73_6 := cellS84_6 HGz73); (have hfz73_1 := blk_frozen HGz73 1); (have hfz73_2 := blk_frozen HGz73 2); (have hfz73_3 := blk_frozen HGz73 3); (have hfz73_4 := blk_frozen HGz73 4); (have hfz73_5 := blk_frozen HGz73 5); (have hfz73_6 := blk_frozen HGz73 6); clear HGz73 hgz73; go_wp2; (first | go_end0 | ((try simp only [Exit.inBlock, Exit.then]); refine bodyPost_ret (results_none rfl _ _ _) rfl ?_)); (exact ⟨by first | rfl | (simp [errW_none, errW_some] <;> rfl) | (simp [*, errW_none, errW_some] <;> rfl), by repeat (first | (with_reducible first | exact HI0.out | apply IsV.alloc | apply IsV.drewN | apply IsV.drew | apply IsV.set_3 | apply IsV.set_6) | exact HI0.out), by repeat (first | (with_reducible first | exact HB.out | apply ba_ | apply bn_ | apply bd_ | refine below_set ?_ (IsV.ge HI0.out)) | exact HB.out), by repeat (first | (with_reducible first | exact HK.out | apply KB.set_ | apply kb_drewN | apply kb_drew | apply kb_alloc) | exact HK.out)⟩)
end Go.Proofs.Ytgcagmmghckbbaa.A

/- HAND spec_l30Run (spec.l30Run): the reference's search for at most some layouts. -/
namespace Go.Proofs.Ytgcagmmghckbbaa.A
open Go.RowKit Go.Proofs.YtgcagmmghckbbaaW.PrintWords Go.Proofs.YtgcagmmghckbbaaW.PrintLast Go.Proofs.YtgcagmmghckbbaaW.PrintMore
set_option linter.unusedVariables false
set_option linter.unusedSimpArgs false
theorem IsV.new {w0 W1 : World} {A0 : Option Addr} {c0 : Nat} {f0 : List (S24)} {f1 f2 f3 f5 : Int} {f6 : Bool} {g : Nat} (hg : w0.heap.size ≤ g) (hr0 : Kd.C k24 w0 A0 f0.length f0) (hb : W1.heap[g]? = some (.cells #[.slice A0 f0.length c0, .int .i64 f1, .int .i64 f2, .int .i64 f3, .slice none 0 0, .int .i64 f5, .bool f6] 84 (0, 0))) :
    IsS84 w0 W1 g f0 f1 f2 f3 [] f5 f6 := ⟨A0, c0, none, 0, hb, hg, hr0, Kd.R_nil _ _ _ _ _⟩
theorem visit0 (k : Nat) (g : Nat) (l0 : List (S24)) (a1 a2 a3 : Int) (r1 r2 r3 : Int) (r4 : List (List (S74))) (r5 : Int) (r6 : Bool) (w0 w : World) (hI : IsS84 w0 w g l0 a1 a2 0 [] a3 false) (hB : Below w0.heap.size w0 w)
    (h : spec_l30Visit.f k l0 a1 a2 0 [] a3 false [] [] = some (r1, r2, r3, r4, r5, r6)) :
    Calls Try.prog 78 #[.pointer (some ⟨g, 0, none⟩), .slice none 0 0, .slice none 0 0] w fun e w' => e = .returned (.tuple #[]) ∧ IsS84 w0 w' g l0 r1 r2 r3 r4 r5 r6 ∧ Below w0.heap.size w0 w' ∧ KB w w' g none :=
  spec_l30Visit.calls k g l0 a1 a2 0 [] a3 false none 0 [] none 0 [] r1 r2 r3 r4 r5 r6 w0 w hI hB (fun W' _ => Kd.C_nil _ W') (Nat.le_refl _) (fun W' _ => Kd.C_nil _ W') (Nat.le_refl _) h
set_option maxHeartbeats 1000000 in
set_option maxRecDepth 100000 in
theorem spec_l30Run.calls (k : Nat) (A0 : Option Addr) (c0 : Nat) (l0 : List (S24)) (a1 a2 a3 : Int) (r1 r2 r3 : Int) (r4 : List (List (S74))) (r5 : Int) (r6 : Bool) (w : World) (hr0 : Kd.C k24 w A0 l0.length l0) (hc0 : l0.length ≤ c0)
    (h : spec_l30Visit.f k l0 a1 a2 0 [] a3 false [] [] = some (r1, r2, r3, r4, r5, r6)) :
    Calls Try.prog 66 #[.slice A0 l0.length c0, .int .i64 a1, .int .i64 a2, .int .i64 a3] w fun e w' => ∃ g : Nat, e = .returned (.pointer (some ⟨g, 0, none⟩)) ∧ IsS84 w w' g l0 r1 r2 r3 r4 r5 r6 ∧ Below w.heap.size w w' := by
 (have hu84 := Try.underlying84); (have HR0 := A0_ hr0); (have H := A0_ h); clear hr0 h; (have HI1 := A0_ (show IsS84 w (w.alloc (.cells #[.slice A0 l0.length c0, .int .i64 a1, .int .i64 a2, .int .i64 0, .slice none 0 0, .int .i64 a3, .bool false] 84)) w.heap.size l0 a1 a2 0 [] a3 false from IsV.new (Nat.le_refl _) HR0.out (by simpa using heap_alloc_new w _))); (have HB1 := A0_ (below_alloc (Below.refl w.heap.size w) (.cells #[.slice A0 l0.length c0, .int .i64 a1, .int .i64 a2, .int .i64 0, .slice none 0 0, .int .i64 a3, .bool false] 84))); (go_enter Try.func66, Try.ntmps66)
 go_wp2_with (first
  | (go_at_call 78; refine (visit0 k w.heap.size l0 a1 a2 a3 r1 r2 r3 r4 r5 r6 w _ HI1.out HB1.out H.out).mono ?_; rintro e w2 ⟨rfl, hi, hb2, hk⟩; have HI := A0_ hi; have HB2 := A0_ hb2; clear hi hb2 hk))
 go_ret; (exact ⟨_, rfl, HI.out, HB2.out⟩)
set_option maxHeartbeats 1000000 in
set_option maxRecDepth 100000 in
theorem spec_CountLayouts.calls' (k : Nat) (A0 : Option Addr) (c0 : Nat) (l0 : List (S24)) (a1 a2 : Int) (t : Int) (r1 r2 r3 : Int) (r4 : List (List (S74))) (r5 : Int) (r6 : Bool) (w : World) (hr0 : Kd.C k24 w A0 l0.length l0) (hc0 : l0.length ≤ c0)
    (h1 : spec_l30Code.f k l0 a1 a2 = some t) (h : t = 0 → spec_l30Visit.f k l0 a1 a2 0 [] 5001 false [] [] = some (r1, r2, r3, r4, r5, r6)) :
    Calls Try.prog 37 #[.slice A0 l0.length c0, .int .i64 a1, .int .i64 a2] w fun e w' => e = .returned (.tuple (if t = 0 then (if r6 = true then #[.int .i64 0, .int .i64 3] else #[.int .i64 r4.length, .int .i64 0]) else #[.int .i64 0, .int .i64 t])) ∧ Below w.heap.size w w' := by
 (have HR0 := A0_ hr0); (have HC0 := A0_ hc0); (have H1 := A0_ h1); (have H := A0_ h); clear hr0 h h1; (by_cases c : t = 0)
 ·(have hT := H.out c); (have HT := A0_ hT); clear hT H; (rw [if_pos c]); (have d : (t != 0) = false := by simp [c])
  cases r6 with
  | true =>
   (go_enter Try.func37, Try.ntmps37)
   go_wp2_with (first
    | (go_at_call 59; refine (spec_l30Code.calls k A0 c0 l0 a1 a2 t w HR0.out HC0.out H1.out).mono ?_; rintro e w1 ⟨rfl, hb⟩; have HB := A0_ hb; clear hb)
    | (go_at_call 66; refine (spec_l30Run.calls k A0 c0 l0 a1 a2 5001 r1 r2 r3 r4 r5 true w1 (Kd.C_below HR0.out HB.out) HC0.out HT.out).mono ?_; rintro e w2 ⟨g, rfl, hi, hb⟩; have HB2 := A0_ hb; obtain ⟨A0s, c0s, A4s, c4s, hgb, hgs, hCs, hFs⟩ := hi; have h6 := cellS84_6 hgb; have h4 := cellS84_4 hgb; clear hb hgb hgs hCs hFs))
   go_ret2; (exact ⟨rfl, below_step HB.out HB2.out⟩)
  | false =>
   (go_enter Try.func37, Try.ntmps37)
   go_wp2_with (first
    | (go_at_call 59; refine (spec_l30Code.calls k A0 c0 l0 a1 a2 t w HR0.out HC0.out H1.out).mono ?_; rintro e w1 ⟨rfl, hb⟩; have HB := A0_ hb; clear hb)
    | (go_at_call 66; refine (spec_l30Run.calls k A0 c0 l0 a1 a2 5001 r1 r2 r3 r4 r5 false w1 (Kd.C_below HR0.out HB.out) HC0.out HT.out).mono ?_; rintro e w2 ⟨g, rfl, hi, hb⟩; have HB2 := A0_ hb; obtain ⟨A0s, c0s, A4s, c4s, hgb, hgs, hCs, hFs⟩ := hi; have h6 := cellS84_6 hgb; have h4 := cellS84_4 hgb; clear hb hgb hgs hCs hFs))
   go_ret2; (exact ⟨rfl, below_step HB.out HB2.out⟩)
 ·(rw [if_neg c]); (have d : (t != 0) = true := by simp [c]); (go_enter Try.func37, Try.ntmps37)
  go_wp2_with (first
   | (go_at_call 59; refine (spec_l30Code.calls k A0 c0 l0 a1 a2 t w HR0.out HC0.out H1.out).mono ?_; rintro e w1 ⟨rfl, hb⟩; have HB := A0_ hb; clear hb))
  go_ret2; (exact ⟨rfl, HB.out⟩)
end Go.Proofs.Ytgcagmmghckbbaa.A

/- The reference's SolveJigsaw, walked. -/
namespace Go.Proofs.Ytgcagmmghckbbaa.A
open Go.RowKit Go.Proofs.YtgcagmmghckbbaaW.PrintWords Go.Proofs.YtgcagmmghckbbaaW.PrintLast Go.Proofs.YtgcagmmghckbbaaW.PrintMore
set_option linter.unusedVariables false
set_option linter.unusedSimpArgs false
/-- The first found layout, as it is read. -/
theorem first_found {W : World} {base : Nat} {A : Option Addr} {c : Nat} {x : List (S74)} {xs : List (List (S74))} (h : Kd.R kF 51 W base (fun _ => True) (.slice A (x :: xs).length c) (x :: xs)) :
    ∃ ad v, A = some ad ∧ W.cell? ad = some v ∧ Kd.R k74 74 W base (fun _ => True) v x := by
  obtain ⟨_, _, hn⟩ := Kd.R_reads' h
  obtain ⟨ad, cs, hA, h1, h2, h3⟩ := Kd.C_get hn ([] : List (S74)) 0 (by simp) (by simp)
  subst hA
  obtain ⟨c', hcl, hM, hcc⟩ := Kd.R_get h ([] : List (S74)) 0 (by simp) (by simp)
  obtain ⟨v, rfl, hr⟩ := hM
  have hc0 := hcc 0 v rfl
  refine ⟨ad, v, rfl, ?_, Kd.R_mono hr (fun _ _ => trivial)⟩
  have e : ad.add ((0 : Int).toNat * kF.sz + 0) = ad := by simp [Addr.add]
  rw [e] at hc0
  exact hc0
def outS (t : Int) (found : List (List (S74))) (over : Bool) : List (S74) × Int :=
  if t = 0 then (match found with | x :: _ => (x, 0) | [] => if over = true then ([], 3) else ([], 4)) else ([], t)
theorem outS_ne {t : Int} {f : List (List (S74))} {o : Bool} (c : ¬ t = 0) : outS t f o = ([], t) := by unfold outS; rw [if_neg c]
set_option maxHeartbeats 1000000 in
set_option maxRecDepth 100000 in
theorem spec_SolveJigsaw.calls' (k : Nat) (A0 : Option Addr) (c0 : Nat) (l0 : List (S24)) (a1 a2 : Int) (t : Int) (r1 r2 r3 : Int) (r4 : List (List (S74))) (r5 : Int) (r6 : Bool) (w : World) (hr0 : Kd.C k24 w A0 l0.length l0) (hc0 : l0.length ≤ c0)
    (h1 : spec_l30Code.f k l0 a1 a2 = some t) (h : t = 0 → spec_l30Visit.f k l0 a1 a2 0 [] 1 false [] [] = some (r1, r2, r3, r4, r5, r6)) :
    Calls Try.prog 43 #[.slice A0 l0.length c0, .int .i64 a1, .int .i64 a2] w fun e w' => ∃ v : Value, e = .returned (.tuple #[v, .int .i64 (outS t r4 r6).2]) ∧ Kd.R k74 74 w' w.heap.size (fun _ => True) v (outS t r4 r6).1 ∧ Below w.heap.size w w' := by
  have HR0 := Aside0.mk hr0
  have HC0 := Aside0.mk hc0
  have H1 := Aside0.mk h1
  have H := Aside0.mk h
  clear hr0 h h1
  by_cases c : t = 0
  · have HT := Aside0.mk (H.out c)
    clear H
    have d : (t != 0) = false := by simp [c]
    cases r4 with
    | nil =>
      cases r6 with
      | true =>
        go_enter Try.func43, Try.ntmps43
        go_wp2_with (first
          | (go_at_call 59; refine (spec_l30Code.calls k A0 c0 l0 a1 a2 t w HR0.out HC0.out H1.out).mono ?_; rintro e w1 ⟨rfl, hb⟩; have HB := Aside0.mk hb; clear hb)
          | (go_at_call 66; refine (spec_l30Run.calls k A0 c0 l0 a1 a2 1 r1 r2 r3 [] r5 true w1 (Kd.C_below HR0.out HB.out) HC0.out HT.out).mono ?_; rintro e w2 ⟨g, rfl, hi, hb⟩; have HB2 := Aside0.mk hb; obtain ⟨A0s, c0s, A4s, c4s, hgb, hgs, hCs, hFs⟩ := hi; have h6 := cellS84_6 hgb; have h4 := cellS84_4 hgb; clear hb hgb hgs hCs hFs))
        go_ret2
        exact ⟨.slice none 0 0, by rw [outS, if_pos c]; rfl, by rw [outS, if_pos c]; exact Kd.R_nil _ _ _ _ _, below_step HB.out HB2.out⟩
      | false =>
        go_enter Try.func43, Try.ntmps43
        go_wp2_with (first
          | (go_at_call 59; refine (spec_l30Code.calls k A0 c0 l0 a1 a2 t w HR0.out HC0.out H1.out).mono ?_; rintro e w1 ⟨rfl, hb⟩; have HB := Aside0.mk hb; clear hb)
          | (go_at_call 66; refine (spec_l30Run.calls k A0 c0 l0 a1 a2 1 r1 r2 r3 [] r5 false w1 (Kd.C_below HR0.out HB.out) HC0.out HT.out).mono ?_; rintro e w2 ⟨g, rfl, hi, hb⟩; have HB2 := Aside0.mk hb; obtain ⟨A0s, c0s, A4s, c4s, hgb, hgs, hCs, hFs⟩ := hi; have h6 := cellS84_6 hgb; have h4 := cellS84_4 hgb; clear hb hgb hgs hCs hFs))
        go_ret2
        exact ⟨.slice none 0 0, by rw [outS, if_pos c]; rfl, by rw [outS, if_pos c]; exact Kd.R_nil _ _ _ _ _, below_step HB.out HB2.out⟩
    | cons x xs =>
      have hlen : decide (0 < (((x :: xs).length : Nat) : Int)) = true := by simp
      have hp : ((0 : Int) < ((x :: xs).length : Int)) = True := eq_true (by simp)
      go_enter Try.func43, Try.ntmps43
      go_wp2_with (first
        | (go_at_call 59; refine (spec_l30Code.calls k A0 c0 l0 a1 a2 t w HR0.out HC0.out H1.out).mono ?_; rintro e w1 ⟨rfl, hb⟩; have HB := Aside0.mk hb; clear hb)
        | (go_at_call 66; refine (spec_l30Run.calls k A0 c0 l0 a1 a2 1 r1 r2 r3 (x :: xs) r5 r6 w1 (Kd.C_below HR0.out HB.out) HC0.out HT.out).mono ?_; rintro e w2 ⟨g, rfl, hi, hb⟩; have HB2 := Aside0.mk hb; obtain ⟨A0s, c0s, A4s, c4s, hgb, hgs, hCs, hFs⟩ := hi; have h6 := cellS84_6 hgb; have h4 := cellS84_4 hgb; obtain ⟨ad, v, rfl, hv, hr⟩ := first_found hFs; have HV := Aside0.mk hr; clear hb hgb hgs hCs hFs hr))
      go_ret2
      exact ⟨v, by rw [outS, if_pos c]; rfl, by rw [outS, if_pos c]; exact Kd.R_lower HV.out HB.out.size, below_step HB.out HB2.out⟩
  · have d : (t != 0) = true := by simp [c]
    go_enter Try.func43, Try.ntmps43
    go_wp2_with (first
      | (go_at_call 59; refine (spec_l30Code.calls k A0 c0 l0 a1 a2 t w HR0.out HC0.out H1.out).mono ?_; rintro e w1 ⟨rfl, hb⟩; have HB := Aside0.mk hb; clear hb))
    go_ret2
    exact ⟨.slice none 0 0, by rw [outS_ne c]; rfl, by rw [outS_ne c]; exact Kd.R_nil _ _ _ _ _, HB.out⟩
end Go.Proofs.Ytgcagmmghckbbaa.A

/- Counting and solving: the program's answers are the reference's, in plain words. -/
namespace Go.Proofs.Ytgcagmmghckbbaa.A
set_option linter.unusedSimpArgs false
set_option linter.unusedVariables false
open Go.RowKit Go.Proofs.YtgcagmmghckbbaaW.PrintWords Go.Proofs.YtgcagmmghckbbaaW.PrintLast Go.Proofs.YtgcagmmghckbbaaW.PrintMore
def relC (r : LS Int) (s : VS) : Prop := r.broken = s.over ∧ r.ended = false ∧ okV s ∧ (s.over = false → r.steps = s.steps ∧ r.a = (s.found.length : Int))
theorem notstop {α : Type} {r : LS α} (h : stopL r = false) : r.ended = false ∧ r.broken = false := by unfold stopL at h; simpa using h
def searchV (tiles : List Tl) (w h most : Int) : VS := visitV tiles w h most tiles.length [] [] ⟨0, [], false⟩
theorem usedV_nil (tiles : List Tl) : ∀ i, i < tiles.length → (List.replicate tiles.length false).getD i false = usedV [] i := by
  intro i hi
  unfold usedV
  simp [List.getD, List.getElem?_replicate, hi]
theorem count_rel (tiles : List Tl) (w h : Int) : relC (runL stepC tiles w h 0) (searchV tiles w h 5001) := by
  unfold runL searchV
  refine main_rel stepC tiles w h 5001 relC ?_ ?_ ?_ ?_ ?_ tiles.length _ [] [] _ _ (by simp) (usedV_nil tiles) ⟨rfl, rfl, ⟨by dsimp only; omega, by dsimp only; omega, by simp, fun _ => by dsimp only; omega⟩, fun _ => ⟨rfl, rfl⟩⟩ rfl
  · rintro r s ⟨h1, h2, h3, h4⟩
    unfold stopL stopV
    rw [h2, h1]
    cases ho : s.over with
    | true => rw [Bool.true_or, Bool.or_true]
    | false =>
      have := h3.2.2.2 ho
      have := h3.2.2.1
      have e : ((s.found.length : Int) < 5001) := by omega
      rw [decide_eq_true e, Bool.not_true]
  · rintro r s ⟨h1, h2, h3, h4⟩ hs
    have ho : s.over = false := by rw [← h1]; exact (notstop hs).2
    exact ⟨(h4 ho).1, h3.1, h3.2.2.2 ho⟩
  · rintro r s ⟨h1, h2, h3, h4⟩ hs hc
    have := h3.2.2.1
    refine ⟨rfl, h2, ⟨?_, ?_, ?_, fun hf => absurd hf (by simp)⟩, fun hf => absurd hf (by simp)⟩ <;> dsimp only <;> omega
  · rintro r s layout ⟨h1, h2, h3, h4⟩ hs hc
    have ho : s.over = false := by rw [← h1]; exact (notstop hs).2
    obtain ⟨e1, e2⟩ := h4 ho
    have := h3.1
    have := h3.2.2.1
    refine ⟨h1, rfl, ⟨?_, ?_, ?_, fun _ => ?_⟩, fun _ => ⟨?_, ?_⟩⟩
    · dsimp only; omega
    · dsimp only; omega
    · simp only [List.length_append, List.length_singleton]; omega
    · dsimp only; omega
    · dsimp only; omega
    · show wrap64 (r.a + 1) = _
      rw [e2]
      simp only [List.length_append, List.length_singleton]
      unfold wrap64
      omega
  · rintro r s ⟨h1, h2, h3, h4⟩ hs hc
    have ho : s.over = false := by rw [← h1]; exact (notstop hs).2
    obtain ⟨e1, e2⟩ := h4 ho
    have := h3.1
    have := h3.2.2.1
    refine ⟨h1, h2, ⟨?_, ?_, ?_, fun _ => ?_⟩, fun _ => ⟨?_, e2⟩⟩ <;> dsimp only <;> omega
def relS (r : LS (Option (List St))) (s : VS) : Prop := r.broken = s.over ∧ r.ended = !s.found.isEmpty ∧ r.a = s.found.head? ∧ okV s ∧ (s.over = true → s.found = []) ∧ (s.over = false → r.steps = s.steps)
theorem solve_rel (tiles : List Tl) (w h : Int) : relS (runL stepS tiles w h none) (searchV tiles w h 1) := by
  unfold runL searchV
  refine main_rel stepS tiles w h 1 relS ?_ ?_ ?_ ?_ ?_ tiles.length _ [] [] _ _ (by simp) (usedV_nil tiles) ⟨rfl, rfl, rfl, ⟨by dsimp only; omega, by dsimp only; omega, by simp, fun _ => by dsimp only; omega⟩, fun hf => absurd hf (by simp), fun _ => rfl⟩ rfl
  · rintro r s ⟨h1, h2, h3, h4, h5, h6⟩
    unfold stopL stopV
    rw [h2, h1]
    cases hf : s.found with
    | nil => simp
    | cons x xs =>
      have : ¬ (((x :: xs).length : Int) < 1) := by simp; omega
      cases s.over <;> simp <;> omega
  · rintro r s ⟨h1, h2, h3, h4, h5, h6⟩ hs
    have ho : s.over = false := by rw [← h1]; exact (notstop hs).2
    exact ⟨h6 ho, h4.1, h4.2.2.2 ho⟩
  · rintro r s ⟨h1, h2, h3, h4, h5, h6⟩ hs hc
    have he : s.found = [] := by have := (notstop hs).1; rw [h2] at this; simpa using this
    have := h4.2.2.1
    refine ⟨rfl, h2, h3, ⟨?_, ?_, ?_, fun hf => absurd hf (by simp)⟩, fun _ => he, fun hf => absurd hf (by simp)⟩ <;> dsimp only <;> omega
  · rintro r s layout ⟨h1, h2, h3, h4, h5, h6⟩ hs hc
    have ho : s.over = false := by rw [← h1]; exact (notstop hs).2
    have he : s.found = [] := by have := (notstop hs).1; rw [h2] at this; simpa using this
    have := h4.1
    have e6 := h6 ho
    refine ⟨h1, ?_, ?_, ⟨?_, ?_, ?_, fun _ => ?_⟩, fun hf => absurd hf (by dsimp only; rw [ho]; decide), fun _ => ?_⟩
    · dsimp only; rw [he]; rfl
    · dsimp only; rw [he]; rfl
    · dsimp only; omega
    · dsimp only; omega
    · dsimp only; rw [he]; simp; omega
    · dsimp only; omega
    · dsimp only; omega
  · rintro r s ⟨h1, h2, h3, h4, h5, h6⟩ hs hc
    have ho : s.over = false := by rw [← h1]; exact (notstop hs).2
    have e6 := h6 ho
    have := h4.1
    have := h4.2.2.1
    refine ⟨h1, h2, h3, ⟨?_, ?_, ?_, fun _ => ?_⟩, h5, fun _ => ?_⟩ <;> dsimp only <;> omega
/-- What both CountLayouts answer. -/
def cntOut (tiles : List Tl) (w h : Int) : Int × Int := if codeV tiles w h = 0 then (if (searchV tiles w h 5001).over = true then (0, 3) else (((searchV tiles w h 5001).found.length : Int), 0)) else (0, codeV tiles w h)
theorem outC_eq (tiles : List Tl) (w h : Int) : outC (codeV tiles w h) (runL stepC tiles w h 0) = cntOut tiles w h := by
  obtain ⟨h1, h2, h3, h4⟩ := count_rel tiles w h
  unfold outC cntOut
  split
  · rw [h1]
    split
    · rfl
    · rename_i ho
      rw [(h4 (Bool.eq_false_iff.mpr ho)).2]
  · rfl
/-- What both SolveJigsaw answer. -/
def solOut (tiles : List Tl) (w h : Int) : List St × Int := outS (codeV tiles w h) (searchV tiles w h 1).found (searchV tiles w h 1).over
theorem outI_eq (tiles : List Tl) (w h : Int) : outI (codeV tiles w h) (runL stepS tiles w h none) = solOut tiles w h := by
  obtain ⟨h1, h2, h3, h4, h5, h6⟩ := solve_rel tiles w h
  unfold outI solOut outS
  split
  · cases hf : (searchV tiles w h 1).found with
    | nil =>
      rw [hf] at h2
      rw [h1, h2]
      cases (searchV tiles w h 1).over <;> rfl
    | cons x xs =>
      have ho : (searchV tiles w h 1).over = false := by
        cases hv : (searchV tiles w h 1).over with
        | false => rfl
        | true => rw [h5 hv] at hf; cases hf
      rw [hf] at h2 h3
      rw [h1, ho, h2, h3]
      rfl
  · rfl
end Go.Proofs.Ytgcagmmghckbbaa.A

/- The reference's printed search comes to the plain one. -/
namespace Go.Proofs.Ytgcagmmghckbbaa.A
set_option linter.unusedSimpArgs false
set_option linter.unusedVariables false
open Go.RowKit Go.Proofs.YtgcagmmghckbbaaW.PrintWords Go.Proofs.YtgcagmmghckbbaaW.PrintLast Go.Proofs.YtgcagmmghckbbaaW.PrintMore
theorem tup_eqb (a b : Tl) : (a.f0 == b.f0 && (a.f1 == b.f1 && (a.f2 == b.f2 && (a.f3 == b.f3)))) = decide (tup a = tup b) := by
  rcases a with ⟨a0, a1, a2, a3⟩
  rcases b with ⟨b0, b1, b2, b3⟩
  by_cases h0 : a0 = b0 <;> by_cases h1 : a1 = b1 <;> by_cases h2 : a2 = b2 <;> by_cases h3 : a3 = b3 <;> simp [tup, h0, h1, h2, h3]
section
variable (tiles : List Tl) (w h most : Int) (layout : List St) (placed : List Tl)
def resV (s : VS) : Int × Int × Int × List (List St) × Int × Bool := (w, h, s.steps, s.found, most, s.over)
variable {R : Int × Int × Int × List (List St) × Int × Bool}
theorem visE_l1 (hll : layout.length ≤ 12) (i : Nat) (s : VS) : ∀ (m j : Nat) (b : Bool), j + m = layout.length →
    Ev (fun k => spec_l30Visit.l2 k layout placed i (b || (layout.drop j).any fun x => x.f0 == (i : Int)) 0 tiles w h s.steps s.found most s.over) R →
    Ev (fun k => spec_l30Visit.l1 k layout placed i b j tiles w h s.steps s.found most s.over) R
  | 0, j, b, hj, hR => by
    have e : layout.drop j = [] := List.drop_eq_nil_of_le (by omega)
    rw [e, List.any_nil, Bool.or_false] at hR
    refine Ev.step (fun k => ?_) hR
    simp only [spec_l30Visit.l1]
    rw [if_neg (by omega)]
  | m + 1, j, b, hj, hR => by
    have hlt : j < layout.length := by omega
    have hw : wrap64 ((j : Int) + 1) = ((j + 1 : Nat) : Int) := wrap_succ j (by omega)
    have e : layout.drop j = layout[j] :: layout.drop (j + 1) := List.drop_eq_getElem_cons hlt
    rw [e, List.any_cons] at hR
    cases b with
    | true =>
      refine Ev.step (f := fun k => spec_l30Visit.l1 k layout placed i true ((j + 1 : Nat) : Int) tiles w h s.steps s.found most s.over) (fun k => ?_) (visE_l1 hll i s m (j + 1) true (by omega) (by simpa using hR))
      simp only [spec_l30Visit.l1]
      rw [if_pos (by omega), if_pos (by simp), hw]
    | false =>
      refine Ev.step (f := fun k => spec_l30Visit.l1 k layout placed i (layout[j].f0 == (i : Int)) ((j + 1 : Nat) : Int) tiles w h s.steps s.found most s.over) (fun k => ?_) (visE_l1 hll i s m (j + 1) _ (by omega) (by simpa using hR))
      simp only [spec_l30Visit.l1]
      rw [if_pos (by omega), if_neg (by simp), if_pos (by omega), hw, setAt_nat layout j hlt]
theorem visE_l3 (i t : Nat) (ht : t < 4) (hi : i < tiles.length) (u7 : Bool) (s : VS) : ∀ (m u : Nat), u + m = t →
    Ev (fun k => spec_l30Visit.l3 k layout placed i u7 t (againV tiles i t) t tiles w h s.steps s.found most s.over (turnT (tileAt tiles i) t).f0 (turnT (tileAt tiles i) t).f1 (turnT (tileAt tiles i) t).f2 (turnT (tileAt tiles i) t).f3) R →
    Ev (fun k => spec_l30Visit.l3 k layout placed i u7 t ((List.range u).any fun v => decide (tup (turnT (tileAt tiles i) v) = tup (turnT (tileAt tiles i) t))) u tiles w h s.steps s.found most s.over (turnT (tileAt tiles i) t).f0 (turnT (tileAt tiles i) t).f1 (turnT (tileAt tiles i) t).f2 (turnT (tileAt tiles i) t).f3) R
  | 0, u, hu, hR => by
    have e : u = t := by omega
    subst e
    exact hR
  | m + 1, u, hu, hR => by
    have hw : wrap64 ((u : Int) + 1) = ((u + 1 : Nat) : Int) := wrap_succ u (by omega)
    have ih := visE_l3 i t ht hi u7 s m (u + 1) (by omega) hR
    rw [List.range_succ, List.any_append] at ih
    simp only [List.any_cons, List.any_nil, Bool.or_false] at ih
    cases hb : ((List.range u).any fun v => decide (tup (turnT (tileAt tiles i) v) = tup (turnT (tileAt tiles i) t))) with
    | true =>
      rw [hb, Bool.true_or] at ih
      refine Ev.step (fun k => ?_) ih
      simp only [spec_l30Visit.l3]
      rw [if_pos (by omega), if_pos (by simp), hw]
    | false =>
      rw [hb, Bool.false_or] at ih
      refine Ev.step (fun k => ?_) ih
      simp only [spec_l30Visit.l3]
      have et := l30Turn_eq (tileAt tiles i) u (by omega) (by omega)
      unfold tileAt at et
      rw [if_pos (by omega), if_neg (by simp), if_pos (by omega), if_pos (by omega), et]
      simp only [Option.bind_some, tup, hw]
      have eq := tup_eqb (turnT (tileAt tiles i) u) (turnT (tileAt tiles i) t)
      unfold tileAt at eq ⊢
      simp only [tup] at eq
      rw [eq]
end
end Go.Proofs.Ytgcagmmghckbbaa.A
namespace Go.Proofs.Ytgcagmmghckbbaa.A
set_option linter.unusedSimpArgs false
set_option linter.unusedVariables false
open Go.RowKit Go.Proofs.YtgcagmmghckbbaaW.PrintWords Go.Proofs.YtgcagmmghckbbaaW.PrintLast Go.Proofs.YtgcagmmghckbbaaW.PrintMore
section
variable (tiles : List Tl) (w h most : Int) (layout : List St) (placed : List Tl)
variable {R : Int × Int × Int × List (List St) × Int × Bool}
theorem visE_j3f (i : Nat) (hi : i ≤ 1000) (u7 : Bool) (t : Int) (s : VS) (hR : Ev (fun k => spec_l30Visit.l0 k layout placed ((i + 1 : Nat) : Int) tiles w h s.steps s.found most s.over) R) :
    Ev (fun k => spec_l30Visit.j3 k layout placed i u7 t false tiles w h s.steps s.found most s.over) R := by
  have hw : wrap64 ((i : Int) + 1) = ((i + 1 : Nat) : Int) := wrap_succ i (by omega)
  refine Ev.step (fun k => ?_) hR
  simp only [spec_l30Visit.j3]
  rw [if_neg (by simp), hw]
/-- The turns of tile i from 4 - m on, the tile not yet used. -/
theorem visE_l2 (hlen : tiles.length ≤ 12) (hll : layout.length ≤ 12) (hpl : placed.length ≤ 12) (h1 : 1 ≤ w) (h6 : w ≤ 6) (hh1 : 1 ≤ h) (hh6 : h ≤ 6) (i : Nat) (hi : i < tiles.length) (visit : List St → List Tl → VS → VS)
    (hvis : ∀ (t : Nat) (s : VS), okV s → s.over = false → Ev (fun k => spec_l30Visit.f k tiles w h s.steps s.found most s.over (layout ++ [⟨i, t⟩]) (placed ++ [turnT (tileAt tiles i) t])) (resV w h most (visit (layout ++ [⟨i, t⟩]) (placed ++ [turnT (tileAt tiles i) t]) s)) ∧ okV (visit (layout ++ [⟨i, t⟩]) (placed ++ [turnT (tileAt tiles i) t]) s)) :
    ∀ (m : Nat) (s : VS), m ≤ 4 → okV s →
      (okV (turnsV tiles w h most visit layout placed i m s) → Ev (fun k => spec_l30Visit.l0 k layout placed ((i + 1 : Nat) : Int) tiles w h (turnsV tiles w h most visit layout placed i m s).steps (turnsV tiles w h most visit layout placed i m s).found most (turnsV tiles w h most visit layout placed i m s).over) R) →
      Ev (fun k => spec_l30Visit.l2 k layout placed i false ((4 - m : Nat) : Int) tiles w h s.steps s.found most s.over) R
  | 0, s, hm, hs, hR => by
    have e4 : ((4 - 0 : Nat) : Int) = 4 := rfl
    rw [e4]
    refine Ev.step (fun k => ?_) (visE_j3f tiles w h most layout placed i (by omega) false 4 s (hR hs))
    simp only [spec_l30Visit.l2]
    rw [if_neg (by decide)]
  | m + 1, s, hm, hs, hR => by
    have ht : 4 - (m + 1) < 4 := by omega
    have hm4 : m ≤ 4 := by omega
    have pi0 : (0 : Int) ≤ (i : Int) := Int.natCast_nonneg i
    have pi1 : (i : Int) < (tiles.length : Int) := Int.ofNat_lt.2 hi
    have hi1000 : i ≤ 1000 := by omega
    have hp6 : placed.length ≤ 1048576 := by omega
    have q1 : 0 + layout.length < 8796093022208 := by omega
    have q2 : 0 + layout.length + 1 < 8796093022208 := by omega
    have q3 : 0 + placed.length < 4398046511104 := by omega
    have q4 : 0 + placed.length + 1 < 4398046511104 := by omega
    by_cases st : stopV most s = true
    · have e : turnsV tiles w h most visit layout placed i (m + 1) s = s := turnsV_stop tiles w h most visit layout placed i (m + 1) s st
      rw [e] at hR
      refine Ev.step (fun k => ?_) (visE_j3f tiles w h most layout placed i (by omega) false ((4 - (m + 1) : Nat) : Int) s (hR hs))
      simp only [spec_l30Visit.l2]
      rw [if_pos (by omega), if_neg (by simp)]
      unfold stopV at st
      cases ho : s.over with
      | true => rw [if_pos rfl]
      | false =>
        rw [ho, Bool.false_or, Bool.not_eq_true'] at st
        rw [if_neg (by simp), st]
    · have ho : s.over = false := by unfold stopV at st; revert st; cases s.over <;> simp
      have hf : decide ((s.found.length : Int) < most) = true := by unfold stopV at st; rw [ho] at st; revert st; simp
      have e : turnsV tiles w h most visit layout placed i (m + 1) s = turnsV tiles w h most visit layout placed i m (if !againV tiles i (4 - (m + 1)) && fitsV placed (turnT (tileAt tiles i) (4 - (m + 1) : Nat)) w h then visit (layout ++ [⟨i, (4 - (m + 1) : Nat)⟩]) (placed ++ [turnT (tileAt tiles i) (4 - (m + 1) : Nat)]) s else s) := by
        rw [turnsV, if_neg st]
      rw [e] at hR
      clear e
      obtain ⟨t, htt⟩ : ∃ t, t = 4 - (m + 1) := ⟨_, rfl⟩
      have hnext : 4 - m = t + 1 := by omega
      rw [← htt] at hR ht ⊢
      have hw : wrap64 ((t : Int) + 1) = ((4 - m : Nat) : Int) := by rw [hnext]; exact wrap_succ t (Nat.lt_trans ht (by decide))
      have pt : (t : Int) < 4 := Int.ofNat_lt.2 ht
      have pnt : ¬ (t : Int) < (t : Int) := Int.lt_irrefl _
      have ht3 : (t : Int) ≤ 3 := Int.ofNat_le.2 (Nat.le_of_lt_succ ht)
      have ett := l30Turn_eq (tileAt tiles i) t (Int.natCast_nonneg t) ht3
      unfold tileAt at ett
      refine Ev.step (f := fun k => spec_l30Visit.j3 k layout placed i false (t : Int) true tiles w h s.steps s.found most s.over) (fun k => ?_) ?_
      · simp only [spec_l30Visit.l2]
        rw [if_pos pt, if_neg (by simp), ho, if_neg (by simp), hf]
      refine Ev.step (f := fun k => spec_l30Visit.l3 k layout placed i false (t : Int) false 0 tiles w h s.steps s.found most s.over (turnT (tileAt tiles i) t).f0 (turnT (tileAt tiles i) t).f1 (turnT (tileAt tiles i) t).f2 (turnT (tileAt tiles i) t).f3) (fun k => ?_) ?_
      · simp only [spec_l30Visit.j3]
        rw [if_pos (by simp), if_pos pi0, if_pos pi1, ett]
        unfold tileAt
        simp only [Option.bind_some, tup]
      refine visE_l3 tiles w h most layout placed i t ht hi false s t 0 (Nat.zero_add t) ?_
      have hfit := l30Fits_ev placed (turnT (tileAt tiles i) t) w h h1 h6 hh1 hh6 hp6
      cases ha : againV tiles i t with
      | true =>
        rw [ha] at hR
        refine Ev.step (f := fun k => spec_l30Visit.l2 k layout placed i false ((4 - m : Nat) : Int) tiles w h s.steps s.found most s.over) (fun k => ?_) (visE_l2 hlen hll hpl h1 h6 hh1 hh6 i hi visit hvis m s hm4 hs (by simpa using hR))
        simp only [spec_l30Visit.l3]
        rw [if_neg pnt, if_pos (by simp), hw]
      | false =>
        rw [ha, Bool.not_false, Bool.true_and] at hR
        refine Ev.succ ?_
        simp only [spec_l30Visit.l3]
        refine Ev.unfold (f := fun k => (spec_l30Fits.f k placed (turnT (tileAt tiles i) t).f0 (turnT (tileAt tiles i) t).f1 (turnT (tileAt tiles i) t).f2 (turnT (tileAt tiles i) t).f3 w h).bind fun t610 => if t610 = true then (spec_l30Visit.f k tiles w h s.steps s.found most s.over (layout ++ [⟨i, t⟩]) (placed ++ [turnT (tileAt tiles i) t])).bind fun bt => spec_l30Visit.l2 k layout placed i false ((4 - m : Nat) : Int) tiles bt.1 bt.2.1 bt.2.2.1 bt.2.2.2.1 bt.2.2.2.2.1 bt.2.2.2.2.2 else spec_l30Visit.l2 k layout placed i false ((4 - m : Nat) : Int) tiles w h s.steps s.found most s.over) (fun k => ?_) (Ev.bind hfit ?_)
        · rw [if_neg pnt, if_neg (by simp), hw]
          congr 1
          funext b
          split
          · simp only [Option.bind_some, List.nil_append, List.length_nil, List.length_append, List.length_singleton]
            rw [if_pos q1, if_pos q2, if_pos q3, if_pos q4]
          · rfl
        · cases hfv : fitsV placed (turnT (tileAt tiles i) t) w h with
          | false =>
            rw [hfv] at hR
            refine Ev.unfold (fun k => if_neg (by simp)) ?_
            exact visE_l2 hlen hll hpl h1 h6 hh1 hh6 i hi visit hvis m s hm4 hs (by simpa using hR)
          | true =>
            rw [hfv] at hR
            refine Ev.unfold (fun k => if_pos (by simp)) ?_
            obtain ⟨hv1, hv2⟩ := hvis t s hs ho
            refine Ev.bind hv1 ?_
            exact visE_l2 hlen hll hpl h1 h6 hh1 hh6 i hi visit hvis m _ hm4 hv2 (by simpa using hR)
end
end Go.Proofs.Ytgcagmmghckbbaa.A
namespace Go.Proofs.Ytgcagmmghckbbaa.A
set_option linter.unusedSimpArgs false
set_option linter.unusedVariables false
open Go.RowKit Go.Proofs.YtgcagmmghckbbaaW.PrintWords Go.Proofs.YtgcagmmghckbbaaW.PrintLast Go.Proofs.YtgcagmmghckbbaaW.PrintMore
section
variable (tiles : List Tl) (w h most : Int) (layout : List St) (placed : List Tl) (visit : List St → List Tl → VS → VS)
theorem okV_turns (i : Nat) (hv : ∀ (t : Nat) (s : VS), okV s → s.over = false → okV (visit (layout ++ [⟨i, t⟩]) (placed ++ [turnT (tileAt tiles i) t]) s)) : ∀ (m : Nat) (s : VS), okV s → okV (turnsV tiles w h most visit layout placed i m s)
  | 0, s, hs => hs
  | m + 1, s, hs => by
    unfold turnsV
    split
    · exact hs
    · rename_i st
      have ho : s.over = false := by unfold stopV at st; revert st; cases s.over <;> simp
      refine okV_turns i hv m _ ?_
      split
      · exact hv _ s hs ho
      · exact hs
theorem okV_tiles (hv : ∀ (i t : Nat) (s : VS), okV s → s.over = false → okV (visit (layout ++ [⟨i, t⟩]) (placed ++ [turnT (tileAt tiles i) t]) s)) : ∀ (m : Nat) (s : VS), okV s → okV (tilesV tiles w h most visit layout placed m s)
  | 0, s, hs => hs
  | m + 1, s, hs => by
    unfold tilesV
    refine okV_tiles hv m _ ?_
    split
    · exact hs
    · exact okV_turns tiles w h most layout placed visit _ (hv _) 4 s hs
theorem visE_l0 (hlen : tiles.length ≤ 12) (hll : layout.length ≤ 12) (hpl : placed.length ≤ 12) (h1 : 1 ≤ w) (h6 : w ≤ 6) (hh1 : 1 ≤ h) (hh6 : h ≤ 6)
    (hvis : ∀ (i t : Nat) (s : VS), okV s → s.over = false → Ev (fun k => spec_l30Visit.f k tiles w h s.steps s.found most s.over (layout ++ [⟨i, t⟩]) (placed ++ [turnT (tileAt tiles i) t])) (resV w h most (visit (layout ++ [⟨i, t⟩]) (placed ++ [turnT (tileAt tiles i) t]) s)) ∧ okV (visit (layout ++ [⟨i, t⟩]) (placed ++ [turnT (tileAt tiles i) t]) s)) :
    ∀ (m i : Nat) (s : VS), i + m = tiles.length → okV s → Ev (fun k => spec_l30Visit.l0 k layout placed i tiles w h s.steps s.found most s.over) (resV w h most (tilesV tiles w h most visit layout placed m s))
  | 0, i, s, hi, hs => by
    refine Ev.step (f := fun _ => some (resV w h most s)) (fun k => ?_) (Ev.now _)
    simp only [spec_l30Visit.l0]
    rw [if_neg (by omega)]
    rfl
  | m + 1, i, s, hi, hs => by
    have hi' : i < tiles.length := by omega
    have pi1 : (i : Int) < (tiles.length : Int) := Int.ofNat_lt.2 hi'
    have ei : tiles.length - (m + 1) = i := by omega
    have e : tilesV tiles w h most visit layout placed (m + 1) s = tilesV tiles w h most visit layout placed m (if usedV layout i then s else turnsV tiles w h most visit layout placed i 4 s) := by rw [tilesV, ei]
    rw [e]
    refine Ev.step (f := fun k => spec_l30Visit.l1 k layout placed i false ((0 : Nat) : Int) tiles w h s.steps s.found most s.over) (fun k => ?_) (visE_l1 tiles w h most layout placed hll i s layout.length 0 false (Nat.zero_add _) ?_)
    · simp only [spec_l30Visit.l0]
      rw [if_pos pi1]
      rfl
    rw [List.drop_zero, Bool.false_or]
    change Ev (fun k => spec_l30Visit.l2 k layout placed i (usedV layout i) 0 tiles w h s.steps s.found most s.over) _
    cases hu : usedV layout i with
    | true =>
      rw [if_pos rfl]
      refine Ev.step (fun k => ?_) (visE_j3f tiles w h most layout placed i (by omega) true 0 s (visE_l0 hlen hll hpl h1 h6 hh1 hh6 hvis m (i + 1) s (by omega) hs))
      simp only [spec_l30Visit.l2]
      rw [if_pos (by decide), if_pos (by simp)]
    | false =>
      rw [if_neg (by decide)]
      have hz := visE_l2 tiles w h most layout placed hlen hll hpl h1 h6 hh1 hh6 i hi' visit (hvis i) 4 s (Nat.le_refl _) hs (fun ho => visE_l0 hlen hll hpl h1 h6 hh1 hh6 hvis m (i + 1) _ (by omega) ho)
      have e4 : ((4 - 4 : Nat) : Int) = 0 := rfl
      rw [e4] at hz
      exact hz
end
end Go.Proofs.Ytgcagmmghckbbaa.A
namespace Go.Proofs.Ytgcagmmghckbbaa.A
set_option linter.unusedSimpArgs false
set_option linter.unusedVariables false
open Go.RowKit Go.Proofs.YtgcagmmghckbbaaW.PrintWords Go.Proofs.YtgcagmmghckbbaaW.PrintLast Go.Proofs.YtgcagmmghckbbaaW.PrintMore
theorem visE_f (tiles : List Tl) (w h most : Int) (hlen : tiles.length ≤ 12) (h1 : 1 ≤ w) (h6 : w ≤ 6) (hh1 : 1 ≤ h) (hh6 : h ≤ 6) : ∀ (d : Nat) (layout : List St) (placed : List Tl) (s : VS), placed.length + d = tiles.length → layout.length = placed.length → okV s → s.over = false →
    Ev (fun k => spec_l30Visit.f k tiles w h s.steps s.found most s.over layout placed) (resV w h most (visitV tiles w h most d layout placed s)) ∧ okV (visitV tiles w h most d layout placed s) := by
  intro d
  induction d with
  | zero =>
    intro layout placed s hd hl hs ho
    have hst := hs.2.2.2 ho
    have hs0 := hs.1
    have hf := hs.2.2.1
    have hw : wrap64 (s.steps + 1) = s.steps + 1 := wrap_id (by omega) (by omega)
    unfold visitV
    by_cases c : s.steps + 1 > 5000
    · rw [if_pos c]
      refine ⟨Ev.step (f := fun _ => some (resV w h most ⟨s.steps + 1, s.found, true⟩)) (fun k => ?_) (Ev.now _), ⟨by dsimp only; omega, by dsimp only; omega, by dsimp only; omega, fun hf => absurd hf (by simp)⟩⟩
      simp only [spec_l30Visit.f]
      rw [hw, if_pos c]
      rfl
    · rw [if_neg c]
      have e : (placed.length : Int) = (tiles.length : Int) := by omega
      have q1 : layout.length < 8796093022208 := by omega
      have q2 : s.found.length < 5864062014805 := by omega
      refine ⟨Ev.step (f := fun _ => some (resV w h most ⟨s.steps + 1, s.found ++ [layout], s.over⟩)) (fun k => ?_) (Ev.now _), ⟨by dsimp only; omega, by dsimp only; omega, by simp only [List.length_append, List.length_singleton]; omega, fun _ => by dsimp only; omega⟩⟩
      simp only [spec_l30Visit.f]
      rw [hw, if_neg c, if_pos e, if_pos q1, if_pos q2]
      rfl
  | succ d ih =>
    intro layout placed s hd hl hs ho
    have hst := hs.2.2.2 ho
    have hs0 := hs.1
    have hf := hs.2.2.1
    have hw : wrap64 (s.steps + 1) = s.steps + 1 := wrap_id (by omega) (by omega)
    unfold visitV
    by_cases c : s.steps + 1 > 5000
    · rw [if_pos c]
      refine ⟨Ev.step (f := fun _ => some (resV w h most ⟨s.steps + 1, s.found, true⟩)) (fun k => ?_) (Ev.now _), ⟨by dsimp only; omega, by dsimp only; omega, by dsimp only; omega, fun hf => absurd hf (by simp)⟩⟩
      simp only [spec_l30Visit.f]
      rw [hw, if_pos c]
      rfl
    · rw [if_neg c]
      have e : ¬ (placed.length : Int) = (tiles.length : Int) := by omega
      have hs2 : okV ⟨s.steps + 1, s.found, s.over⟩ := ⟨by dsimp only; omega, by dsimp only; omega, by dsimp only; omega, fun _ => by dsimp only; omega⟩
      have hv : ∀ (i t : Nat) (s : VS), okV s → s.over = false → Ev (fun k => spec_l30Visit.f k tiles w h s.steps s.found most s.over (layout ++ [⟨i, t⟩]) (placed ++ [turnT (tileAt tiles i) t])) (resV w h most (visitV tiles w h most d (layout ++ [⟨i, t⟩]) (placed ++ [turnT (tileAt tiles i) t]) s)) ∧ okV (visitV tiles w h most d (layout ++ [⟨i, t⟩]) (placed ++ [turnT (tileAt tiles i) t]) s) :=
        fun i t s hs ho => ih _ _ s (by simp only [List.length_append, List.length_singleton]; omega) (by simp only [List.length_append, List.length_singleton]; omega) hs ho
      have hz := visE_l0 tiles w h most layout placed (visitV tiles w h most d) hlen (by omega) (by omega) h1 h6 hh1 hh6 hv tiles.length 0 ⟨s.steps + 1, s.found, s.over⟩ (Nat.zero_add _) hs2
      refine ⟨Ev.step (fun k => ?_) hz, okV_tiles tiles w h most layout placed (visitV tiles w h most d) (fun i t s hs ho => (hv i t s hs ho).2) tiles.length _ hs2⟩
      simp only [spec_l30Visit.f]
      rw [hw, if_neg c, if_neg e]
      rfl
end Go.Proofs.Ytgcagmmghckbbaa.A

/- HAND spec_CountLayouts (spec.CountLayouts): what the reference's CountLayouts answers. -/
namespace Go.Proofs.Ytgcagmmghckbbaa.A
open Go.RowKit Go.Proofs.YtgcagmmghckbbaaW.PrintWords Go.Proofs.YtgcagmmghckbbaaW.PrintLast Go.Proofs.YtgcagmmghckbbaaW.PrintMore
set_option linter.unusedVariables false
theorem spec_CountLayouts.at (l0 : List Tl) (a1 a2 : Int) (hl : l0.length ≤ 1048576) : ∃ k, spec_l30Code.f k l0 a1 a2 = some (codeV l0 a1 a2) ∧ (codeV l0 a1 a2 = 0 → spec_l30Visit.f k l0 a1 a2 0 [] 5001 false [] [] = some (resV a1 a2 5001 (searchV l0 a1 a2 5001))) := by
 (obtain ⟨K1, h1⟩ := l30Code_ev l0 a1 a2 hl); (by_cases c : codeV l0 a1 a2 = 0)
 ·(obtain ⟨_, w1, w6, x1, x6, _, hn⟩ := codeV_zero c)
  obtain ⟨K2, h2⟩ := (visE_f l0 a1 a2 5001 hn w1 w6 x1 x6 l0.length [] [] ⟨0, [], false⟩ (by simp) rfl ⟨by dsimp only; omega, by dsimp only; omega, by simp, fun _ => by dsimp only; omega⟩ rfl).1
  exact ⟨max K1 K2, h1 _ (Nat.le_max_left _ _), fun _ => h2 _ (Nat.le_max_right _ _)⟩
 ·exact ⟨K1, h1 _ (Nat.le_refl _), fun h => absurd h c⟩
def spec_CountLayouts.f (k : Nat) (l0 : List (S24)) (a1 : Int) (a2 : Int) : Option (Int × Int) := if l0.length ≤ 1048576 then some (cntOut l0 a1 a2) else none
theorem spec_CountLayouts.calls (k : Nat) (A0 : Option Addr) (c0 : Nat) (l0 : List (S24)) (a1 : Int) (a2 : Int) (r1 : Int) (r2 : Int) (w : World) (hr0 : Kd.C k24 w A0 l0.length l0) (hc0 : l0.length ≤ c0) (h : spec_CountLayouts.f k l0 a1 a2 = some (r1, r2)) :
    Calls Try.prog 37 #[.slice A0 l0.length c0, .int .i64 a1, .int .i64 a2] w fun e w' => e = .returned (.tuple #[.int .i64 r1, .int .i64 r2]) ∧ Below w.heap.size w w' := by
 (unfold spec_CountLayouts.f at h); (by_cases hl : l0.length ≤ 1048576)
 ·(rw [if_pos hl] at h); (obtain ⟨K, h1, h2⟩ := spec_CountLayouts.at l0 a1 a2 hl); (refine (spec_CountLayouts.calls' K A0 c0 l0 a1 a2 _ _ _ _ _ _ _ w hr0 hc0 h1 h2).mono ?_); (rintro e w' ⟨rfl, hb⟩); (refine ⟨?_, hb⟩); (have h3 := Option.some.inj h); (unfold cntOut at h3); (split)
  ·(rename_i c); (rw [if_pos c] at h3); (split)
   ·(rename_i o); (rw [if_pos o] at h3); (injection h3 with e1 e2); (rw [← e1, ← e2])
   ·(rename_i o); (rw [if_neg o] at h3); (injection h3 with e1 e2); (rw [← e1, ← e2])
  ·(rename_i c); (rw [if_neg c] at h3); (injection h3 with e1 e2); (rw [← e1, ← e2])
 ·(rw [if_neg hl] at h); (cases h)
end Go.Proofs.Ytgcagmmghckbbaa.A

/- HAND impl_CountLayouts (impl.CountLayouts): what the program's CountLayouts answers. -/
namespace Go.Proofs.Ytgcagmmghckbbaa.A
open Go.RowKit Go.Proofs.YtgcagmmghckbbaaW.PrintWords Go.Proofs.YtgcagmmghckbbaaW.PrintLast Go.Proofs.YtgcagmmghckbbaaW.PrintMore
set_option linter.unusedVariables false
def impl_CountLayouts.f (k : Nat) (l0 : List (S24)) (a1 : Int) (a2 : Int) : Option (Int × Int) := some (cntOut l0 a1 a2)
theorem impl_CountLayouts.calls (k : Nat) (A0 : Option Addr) (c0 : Nat) (l0 : List (S24)) (a1 : Int) (a2 : Int) (r1 : Int) (r2 : Int) (w : World) (hr0 : Kd.C k24 w A0 l0.length l0) (hc0 : l0.length ≤ c0) (h : impl_CountLayouts.f k l0 a1 a2 = some (r1, r2)) :
    Calls Try.prog 38 #[.slice A0 l0.length c0, .int .i64 a1, .int .i64 a2] w fun e w' => e = .returned (.tuple #[.int .i64 r1, .int .i64 r2]) ∧ Below w.heap.size w w' := by
 (obtain ⟨K, hK⟩ := (jigsawCode_ev l0 a1 a2).rounds); (have hz := impl_CountLayouts.calls' K A0 c0 l0 a1 a2 w hr0 hc0 hK); (rw [outC_eq, Option.some.inj h] at hz); (exact hz)
end Go.Proofs.Ytgcagmmghckbbaa.A

/- HAND spec_SolveJigsaw (spec.SolveJigsaw): what the reference's SolveJigsaw answers. -/
namespace Go.Proofs.Ytgcagmmghckbbaa.A
open Go.RowKit Go.Proofs.YtgcagmmghckbbaaW.PrintWords Go.Proofs.YtgcagmmghckbbaaW.PrintLast Go.Proofs.YtgcagmmghckbbaaW.PrintMore
set_option linter.unusedVariables false
theorem spec_SolveJigsaw.at (l0 : List Tl) (a1 a2 : Int) (hl : l0.length ≤ 1048576) : ∃ k, spec_l30Code.f k l0 a1 a2 = some (codeV l0 a1 a2) ∧ (codeV l0 a1 a2 = 0 → spec_l30Visit.f k l0 a1 a2 0 [] 1 false [] [] = some (resV a1 a2 1 (searchV l0 a1 a2 1))) := by
 (obtain ⟨K1, h1⟩ := l30Code_ev l0 a1 a2 hl); (by_cases c : codeV l0 a1 a2 = 0)
 ·(obtain ⟨_, w1, w6, x1, x6, _, hn⟩ := codeV_zero c)
  obtain ⟨K2, h2⟩ := (visE_f l0 a1 a2 1 hn w1 w6 x1 x6 l0.length [] [] ⟨0, [], false⟩ (by simp) rfl ⟨by dsimp only; omega, by dsimp only; omega, by simp, fun _ => by dsimp only; omega⟩ rfl).1
  exact ⟨max K1 K2, h1 _ (Nat.le_max_left _ _), fun _ => h2 _ (Nat.le_max_right _ _)⟩
 ·exact ⟨K1, h1 _ (Nat.le_refl _), fun h => absurd h c⟩
def spec_SolveJigsaw.f (k : Nat) (l0 : List (S24)) (a1 : Int) (a2 : Int) : Option ((List (S74)) × Int) := if l0.length ≤ 1048576 then some (solOut l0 a1 a2) else none
theorem spec_SolveJigsaw.calls (k : Nat) (A0 : Option Addr) (c0 : Nat) (l0 : List (S24)) (a1 : Int) (a2 : Int) (r1 : List (S74)) (r2 : Int) (w : World) (hr0 : Kd.C k24 w A0 l0.length l0) (hc0 : l0.length ≤ c0) (h : spec_SolveJigsaw.f k l0 a1 a2 = some (r1, r2)) :
    Calls Try.prog 43 #[.slice A0 l0.length c0, .int .i64 a1, .int .i64 a2] w fun e w' => ∃ v0_ : Value, e = .returned (.tuple #[v0_, .int .i64 r2]) ∧ Kd.R k74 74 w' w.heap.size (fun _ => True) v0_ r1 ∧ Below w.heap.size w w' := by
 (unfold spec_SolveJigsaw.f at h); (by_cases hl : l0.length ≤ 1048576)
 ·(rw [if_pos hl] at h); (obtain ⟨K, h1, h2⟩ := spec_SolveJigsaw.at l0 a1 a2 hl); (have hz := spec_SolveJigsaw.calls' K A0 c0 l0 a1 a2 _ _ _ _ _ _ _ w hr0 hc0 h1 h2); (have e : outS (codeV l0 a1 a2) (searchV l0 a1 a2 1).found (searchV l0 a1 a2 1).over = (r1, r2) := Option.some.inj h); (rw [e] at hz); (exact hz)
 ·(rw [if_neg hl] at h); (cases h)
end Go.Proofs.Ytgcagmmghckbbaa.A

/- HAND impl_SolveJigsaw (impl.SolveJigsaw): what the program's SolveJigsaw answers. -/
namespace Go.Proofs.Ytgcagmmghckbbaa.A
open Go.RowKit Go.Proofs.YtgcagmmghckbbaaW.PrintWords Go.Proofs.YtgcagmmghckbbaaW.PrintLast Go.Proofs.YtgcagmmghckbbaaW.PrintMore
set_option linter.unusedVariables false
def impl_SolveJigsaw.f (k : Nat) (l0 : List (S24)) (a1 : Int) (a2 : Int) : Option ((List (S74)) × Int) := some (solOut l0 a1 a2)
theorem impl_SolveJigsaw.calls (k : Nat) (A0 : Option Addr) (c0 : Nat) (l0 : List (S24)) (a1 : Int) (a2 : Int) (r1 : List (S74)) (r2 : Int) (w : World) (hr0 : Kd.C k24 w A0 l0.length l0) (hc0 : l0.length ≤ c0) (h : impl_SolveJigsaw.f k l0 a1 a2 = some (r1, r2)) :
    Calls Try.prog 44 #[.slice A0 l0.length c0, .int .i64 a1, .int .i64 a2] w fun e w' => ∃ v0_ : Value, e = .returned (.tuple #[v0_, .int .i64 r2]) ∧ Kd.R k74 74 w' w.heap.size (fun _ => True) v0_ r1 ∧ Below w.heap.size w w' := by
 (obtain ⟨K, hK⟩ := (jigsawCode_ev l0 a1 a2).rounds); (have hz := impl_SolveJigsaw.calls' K A0 c0 l0 a1 a2 w hr0 hc0 hK); (rw [outI_eq, Option.some.inj h] at hz); (exact hz)
end Go.Proofs.Ytgcagmmghckbbaa.A

namespace Go.Proofs.Ytgcagmmghckbbaa.A
open Go.RowKit Go.Proofs.YtgcagmmghckbbaaW.PrintWords Go.Proofs.YtgcagmmghckbbaaW.PrintLast Go.Proofs.YtgcagmmghckbbaaW.PrintMore
attribute [local go_sem] max2_int min2_int max_two min_two max_three min_three max_four min_four   -- for this text's walks alone
set_option linter.unusedVariables false
set_option linter.unusedSimpArgs false
theorem eqA74 (d : Nat) (w : World) (x0 y0 : Int) (x1 y1 : Int) :
    (Op.equalIn (d + 2) 74 (.agg #[.int .i64 x0, .int .i64 x1]) (.agg #[.int .i64 y0, .int .i64 y1])).run Try.prog w = .ok (x0 == y0 && (x1 == y1)) w := by
 (refine eqA_of Try.underlying74 (by kernel_rfl) ?_); (refine eqf_cons (by rfl) (by go_simp; rfl) (by go_simp; rfl) (by go_simp) ?_); (exact eqf_last (by rfl) (by go_simp; rfl) (by go_simp; rfl) (by go_simp))
end Go.Proofs.Ytgcagmmghckbbaa.A

namespace Go.Proofs.Ytgcagmmghckbbaa.A
open Go.RowKit Go.Proofs.YtgcagmmghckbbaaW.PrintWords Go.Proofs.YtgcagmmghckbbaaW.PrintLast Go.Proofs.YtgcagmmghckbbaaW.PrintMore
attribute [local go_sem] max2_int min2_int max_two min_two max_three min_three max_four min_four   -- for this text's walks alone
set_option linter.unusedVariables false
set_option linter.unusedSimpArgs false
attribute [local go_sem high] eqA74
def laws_likeSets.l0 : Nat → List (S74) → List (S74) → Int → Option (Bool)
  | 0, _, _, _ => none
  | k + 1, x0, x1, x5 => if x5 < (x0.length : Int) then (if 0 ≤ x5 then (if x5 < (x1.length : Int) then (if (!(((rd_T74 x0 x5).f0) == ((rd_T74 x1 x5).f0)) || (!(((rd_T74 x0 x5).f1) == ((rd_T74 x1 x5).f1)))) = true then (some false) else (laws_likeSets.l0 k x0 x1 (wrap64 (x5 + 1)))) else (none)) else (none)) else (some true)
def laws_likeSets.f (k : Nat) (l0 : List (S74)) (l1 : List (S74)) : Option (Bool) := if (l0.length : Int) = (l1.length : Int) then (laws_likeSets.l0 k l0 l1 0) else (some false)
set_option maxHeartbeats 8000000 in
set_option maxRecDepth 100000 in
theorem laws_likeSets.calls (k : Nat) (A0 : Option Addr) (c0 : Nat) (l0 : List (S74)) (A1 : Option Addr) (c1 : Nat) (l1 : List (S74)) (r : Bool) (w : World) (hr0 : Kd.C k74 w A0 l0.length l0) (hc0 : l0.length ≤ c0) (hr1 : Kd.C k74 w A1 l1.length l1) (hc1 : l1.length ≤ c1) (h : laws_likeSets.f k l0 l1 = some r) :
    Calls Try.prog 47 #[.slice A0 l0.length c0, .slice A1 l1.length c1] w fun e w' => e = .returned (.bool r) ∧ Drawn0 w w' := by
 (have hu74 := Try.underlying74); (have HR0 := A0_ hr0); (have HC0 := A0_ hc0); clear hr0 hc0; (have HR1 := A0_ hr1); (have HC1 := A0_ hc1); clear hr1 hc1; (have H : (if (l0.length : Int) = (l1.length : Int) then (laws_likeSets.l0 k l0 l1 0) else (some false)) = some r := h); clear h; (by_cases c3 : (l0.length : Int) = (l1.length : Int))
 ·(rw [if_pos c3] at H); (have c3b0 : ((l0.length : Int) == (l1.length : Int)) = true := beq_iff_eq.mpr c3); (have c3b1 : ((l0.length : Int) != (l1.length : Int)) = false := bne_eq_false_iff_eq.mpr c3); (have c3b2 : (l0.length == l1.length) = true := by first | simpa using c3 | (simp at c3 ⊢; omega)); clear c3; (have H' := A0_ H); clear H; (go_enter Try.func47, Try.ntmps47); go_wp2; (repeat (go_quiet (fail); try go_wp2))
  go_loopg [5] k (fun kq v5 w' => ∃ (x5_1 : Int), v5 = .int .i64 x5_1 ∧ Aside0 (laws_likeSets.l0 kq l0 l1 x5_1 = some r) ∧ Aside0 (kq ≤ k) ∧ Drawn0 w w')
  case atStart => exact ⟨(0), (by first | rfl | (simp; done) | (simp [*]; done)), H', ⟨Nat.le_refl _⟩, by repeat (first | exact Drawn0.refl _ | apply Drawn0.step)⟩
  case round =>
   clear H'; (try clear c1); (try clear p2); (try clear c3); (try clear c3b0); (try clear c3b1); (try clear c3b2); (obtain ⟨x5_1, rfl, HA, HK1, ⟨m1, rfl⟩⟩ := hrel)
   cases gk with
   | zero => exact absurd HA.out (by simp [laws_likeSets.l0])
   | succ k1 =>
    (have H := HA.out); clear HA; (simp only [laws_likeSets.l0] at H); (by_cases c4 : x5_1 < (l0.length : Int))
    ·(rw [if_pos c4] at H); (have c4b0 : decide (x5_1 < (l0.length : Int)) = true := decide_eq_true c4); clear c4; (by_cases c5 : 0 ≤ x5_1)
     ·(rw [if_pos c5] at H); (have c5b0 : decide (0 ≤ x5_1) = true := decide_eq_true c5); clear c5; (by_cases c6 : x5_1 < (l1.length : Int))
      ·(rw [if_pos c6] at H); (have c6b0 : decide (x5_1 < (l1.length : Int)) = true := decide_eq_true c6); clear c6; (by_cases c7 : (!(((rd_T74 l0 x5_1).f0) == ((rd_T74 l1 x5_1).f0)) || (!(((rd_T74 l0 x5_1).f1) == ((rd_T74 l1 x5_1).f1)))) = true)
       ·(rw [if_pos c7] at H); (have c7b0 : (!(((rd_T74 l0 x5_1).f0) == ((rd_T74 l1 x5_1).f0)) || (!(((rd_T74 l0 x5_1).f1) == ((rd_T74 l1 x5_1).f1)))) = true := c7); clear c7; (obtain rfl := Option.some.inj H); (have p847 : 0 ≤ (x5_1 : Int) := of_decide_eq_true (by first | (with_reducible assumption) | assumption)); (have q847 : x5_1 < (l0.length : Int) := of_decide_eq_true (by first | (with_reducible assumption) | assumption)); (obtain ⟨ad847, e847, hx847_0, hx847_1⟩ := at_T74 HR0.out x5_1 p847 q847); (cases e847); (replace p847 := eq_true p847); (replace q847 := eq_true q847); (have p848 : 0 ≤ (x5_1 : Int) := of_decide_eq_true (by first | (with_reducible assumption) | assumption)); (have q848 : x5_1 < (l1.length : Int) := of_decide_eq_true (by first | (with_reducible assumption) | assumption)); (obtain ⟨ad848, e848, hx848_0, hx848_1⟩ := at_T74 HR1.out x5_1 p848 q848); (cases e848); (replace p848 := eq_true p848); (replace q848 := eq_true q848); go_wp2; (repeat (go_quiet (fail); try go_wp2)); go_ret; (exact ⟨by first | rfl | (simp; done) | (simp [*]; done), by repeat (first | exact Drawn0.refl _ | apply Drawn0.step)⟩)
       ·(rw [if_neg c7] at H); (have c7b0 : (!(((rd_T74 l0 x5_1).f0) == ((rd_T74 l1 x5_1).f0)) || (!(((rd_T74 l0 x5_1).f1) == ((rd_T74 l1 x5_1).f1)))) = false := by simpa using c7); clear c7; (have H' := A0_ H); clear H; (have p847 : 0 ≤ (x5_1 : Int) := of_decide_eq_true (by first | (with_reducible assumption) | assumption)); (have q847 : x5_1 < (l0.length : Int) := of_decide_eq_true (by first | (with_reducible assumption) | assumption)); (obtain ⟨ad847, e847, hx847_0, hx847_1⟩ := at_T74 HR0.out x5_1 p847 q847); (cases e847); (replace p847 := eq_true p847); (replace q847 := eq_true q847); (have p848 : 0 ≤ (x5_1 : Int) := of_decide_eq_true (by first | (with_reducible assumption) | assumption)); (have q848 : x5_1 < (l1.length : Int) := of_decide_eq_true (by first | (with_reducible assumption) | assumption)); (obtain ⟨ad848, e848, hx848_0, hx848_1⟩ := at_T74 HR1.out x5_1 p848 q848); (cases e848); (replace p848 := eq_true p848); (replace q848 := eq_true q848); go_wp2; (repeat (go_quiet (fail); try go_wp2)); (go_roundg k1)
        case measure => have := HK1.out; omega
        case rel => exact ⟨(wrap64 (x5_1 + 1)), (by first | rfl | (simp; done) | (simp [*]; done)), H', ⟨by have := HK1.out; omega⟩, by repeat (first | exact Drawn0.refl _ | apply Drawn0.step)⟩
      ·(rw [if_neg c6] at H); (exact absurd H (by simp))
     ·(rw [if_neg c5] at H); (exact absurd H (by simp))
    ·(rw [if_neg c4] at H); (have c4b0 : decide (x5_1 < (l0.length : Int)) = false := decide_eq_false c4); clear c4; (obtain rfl := Option.some.inj H); go_wp2; (repeat (go_quiet (fail); try go_wp2)); go_ret; (exact ⟨by first | rfl | (simp; done) | (simp [*]; done), by repeat (first | exact Drawn0.refl _ | apply Drawn0.step)⟩)
 ·(rw [if_neg c3] at H); (have c3b0 : ((l0.length : Int) == (l1.length : Int)) = false := beq_eq_false_iff_ne.mpr c3); (have c3b1 : ((l0.length : Int) != (l1.length : Int)) = true := bne_iff_ne.mpr c3); (have c3b2 : (l0.length == l1.length) = false := by first | simpa using c3 | (simp at c3 ⊢; omega)); (obtain rfl := Option.some.inj H); (go_enter Try.func47, Try.ntmps47); go_wp2; (repeat (go_quiet (fail); try go_wp2)); go_ret; (exact ⟨by first | rfl | (simp; done) | (simp [*]; done), by repeat (first | exact Drawn0.refl _ | apply Drawn0.step)⟩)
end Go.Proofs.Ytgcagmmghckbbaa.A

namespace Go.Proofs.Ytgcagmmghckbbaa.A
open Go.RowKit Go.Proofs.YtgcagmmghckbbaaW.PrintWords Go.Proofs.YtgcagmmghckbbaaW.PrintLast Go.Proofs.YtgcagmmghckbbaaW.PrintMore
attribute [local go_sem] max2_int min2_int max_two min_two max_three min_three max_four min_four   -- for this text's walks alone
set_option linter.unusedVariables false
set_option linter.unusedSimpArgs false
/-- A state of type 102 at block g of W; what its slices lead to came in by w0. -/
def IsS102 (w0 W : World) (g : Nat) (f0 : List Int) (f1 : Int) (f2 : Int) : Prop := ∃ A0 c0, W.heap[g]? = some (.cells #[.slice A0 f0.length c0, .int .i64 f1, .int .i64 f2] 102 (0, 0)) ∧ w0.heap.size ≤ g ∧ Kd.C (Kd.int .u8) w0 A0 f0.length f0
theorem IsS102.grown {w0 W : World} {g : Nat} {f0 : List Int} {f1 : Int} {f2 : Int} {W1 : World} {row : Option Nat} (h : IsS102 w0 W g f0 f1 f2) (hw : W.grownBy W1 row) (hne : some g ≠ row) : IsS102 w0 W1 g f0 f1 f2 := by
 (obtain ⟨A0, c0, hb, hg, hr0⟩ := h); (exact ⟨A0, c0, blk_grown hb hw hne, hg, hr0⟩)
theorem IsS102.fresh {w0 W : World} {g : Nat} {f0 : List Int} {f1 : Int} {f2 : Int} (h : IsS102 w0 W g f0 f1 f2) : ∀ k, W.heap.size ≤ k → k ≠ g := by
 (obtain ⟨A0, c0, hb, hg, hr0⟩ := h); (exact Kd.freshB hb)
theorem IsS102.kept {w0 W : World} {g : Nat} {f0 : List Int} {f1 : Int} {f2 : Int} {W1 : World} {S : Nat → Prop} (h : IsS102 w0 W g f0 f1 f2) (hk : Kept W W1 S) (hne : ¬ S g) : IsS102 w0 W1 g f0 f1 f2 := by
 (obtain ⟨A0, c0, hb, hg, hr0⟩ := h); (exact ⟨A0, c0, blk_kept hb hk hne, hg, hr0⟩)
theorem IsS102.below {w0 W : World} {g : Nat} {f0 : List Int} {f1 : Int} {f2 : Int} {W1 : World} (h : IsS102 w0 W g f0 f1 f2) (hw : Below W.heap.size W W1) : IsS102 w0 W1 g f0 f1 f2 := h.grown (grown_of_below hw none) (by simp)
theorem IsS102.alloc {w0 W : World} {g : Nat} {f0 : List Int} {f1 : Int} {f2 : Int} (h : IsS102 w0 W g f0 f1 f2) (o : Obj) : IsS102 w0 (W.alloc o) g f0 f1 f2 := h.below (below_alloc (Below.refl _ _) o)
theorem IsS102.drewN {w0 W : World} {g : Nat} {f0 : List Int} {f1 : Int} {f2 : Int} (h : IsS102 w0 W g f0 f1 f2) (m : Nat) : IsS102 w0 (W.drewN m) g f0 f1 f2 := h
theorem IsS102.drew {w0 W : World} {g : Nat} {f0 : List Int} {f1 : Int} {f2 : Int} (h : IsS102 w0 W g f0 f1 f2) : IsS102 w0 W.drew g f0 f1 f2 := h
theorem IsS102.at_ {w0 W : World} {g : Nat} {f0 : List Int} {f1 : Int} {f2 : Int} {w' : World} {m : Nat} (hq : W.drewN m = w') (h : IsS102 w0 W g f0 f1 f2) : IsS102 w0 w' g f0 f1 f2 := by subst hq; exact IsS102.drewN h m
theorem IsS102.apart {w0 W : World} {g : Nat} {f0 : List Int} {f1 : Int} {f2 : Int} {α : Type} {d : Kd α} {e : Nat} {base : Nat} {ok : Nat → Prop} {v : Value} {xs : List α} (h : IsS102 w0 W g f0 f1 f2) (ho : d.R e W base ok v xs) (ht : ∀ q, q ∈ e :: d.E → q ≠ 102) : d.R e W base (fun k => ok k ∧ k ≠ g) v xs := by
 (obtain ⟨A0, c0, hb, hg, hr0⟩ := h); (exact Kd.R_types ho hb ht)
theorem IsS102.own_ne {w0 W : World} {g : Nat} {f0 : List Int} {f1 : Int} {f2 : Int} {α : Type} {d : Kd α} {e : Nat} {base : Nat} {ok : Nat → Prop} {v : Value} {xs : List α} (h : IsS102 w0 W g f0 f1 f2) (ho : d.R e W base ok v xs) (ht : e ≠ 102) : some g ≠ v.ownBlock := by
 (obtain ⟨A0, c0, hb, hg, hr0⟩ := h); (exact Kd.R_ne ho hb ht)
theorem IsS102.apartQ {w0 W : World} {g : Nat} {f0 : List Int} {f1 : Int} {f2 : Int} {α : Type} {d : Kd α} {e : Nat} {base : Nat} {ok : Nat → Prop} {v : Value} {xs : List α} (h : IsS102 w0 W g f0 f1 f2) (ho : d.Q e W base ok v xs) (ht : ∀ q, q ∈ e :: d.E → q ≠ 102) : d.Q e W base (fun k => ok k ∧ k ≠ g) v xs := by
 (obtain ⟨A0, c0, hb, hg, hr0⟩ := h); (exact Kd.Q_types ho hb ht)
theorem IsS102.own_neQ {w0 W : World} {g : Nat} {f0 : List Int} {f1 : Int} {f2 : Int} {α : Type} {d : Kd α} {e : Nat} {base : Nat} {ok : Nat → Prop} {v : Value} {xs : List α} (h : IsS102 w0 W g f0 f1 f2) (ho : d.Q e W base ok v xs) (ht : e ≠ 102) : some g ≠ v.ownBlock := by
 (obtain ⟨A0, c0, hb, hg, hr0⟩ := h); (exact Kd.Q_ne ho hb ht)
theorem IsS102.lt {w0 W : World} {g : Nat} {f0 : List Int} {f1 : Int} {f2 : Int} (h : IsS102 w0 W g f0 f1 f2) : g < W.heap.size := by
 (obtain ⟨A0, c0, hb, hg, hr0⟩ := h); (exact blk_lt hb)
theorem IsS102.ge {w0 W : World} {g : Nat} {f0 : List Int} {f1 : Int} {f2 : Int} (h : IsS102 w0 W g f0 f1 f2) : w0.heap.size ≤ g := by
 (obtain ⟨A0, c0, hb, hg, hr0⟩ := h); (exact hg)
theorem IsS102.far {w0 W : World} {g : Nat} {f0 : List Int} {f1 : Int} {f2 : Int} {p : Addr} (h : IsS102 w0 W g f0 f1 f2) (hne : g ≠ p.block) (u : Value) : IsS102 w0 (W.setCell p u) g f0 f1 f2 := by
 (obtain ⟨A0, c0, hb, hg, hr0⟩ := h); (exact ⟨A0, c0, blk_far hb hne u, hg, hr0⟩)
theorem cellS102_0 {W : World} {g : Nat} {A0 : Option Addr} {c0 : Nat} {f0 : List Int} {f1 : Int} {f2 : Int} (h : W.heap[g]? = some (.cells #[.slice A0 f0.length c0, .int .i64 f1, .int .i64 f2] 102 (0, 0))) : W.cell? ⟨g, 0, none⟩ = some (.slice A0 f0.length c0) := (blk_cell h 0).trans rfl
theorem cellS102_1 {W : World} {g : Nat} {A0 : Option Addr} {c0 : Nat} {f0 : List Int} {f1 : Int} {f2 : Int} (h : W.heap[g]? = some (.cells #[.slice A0 f0.length c0, .int .i64 f1, .int .i64 f2] 102 (0, 0))) : W.cell? ⟨g, 1, none⟩ = some (.int .i64 f1) := (blk_cell h 1).trans rfl
theorem IsS102.set_1 {w0 W : World} {g : Nat} {f0 : List Int} {f1 : Int} {f2 : Int} (h : IsS102 w0 W g f0 f1 f2) (x : Int) : IsS102 w0 (W.setCell ⟨g, 1, none⟩ (.int .i64 x)) g f0 x f2 := by
 (obtain ⟨A0, c0, hb, hg, hr0⟩ := h); (exact ⟨A0, c0, by simpa using blk_set hb 1 (.int .i64 x), hg, hr0⟩)
theorem cellS102_2 {W : World} {g : Nat} {A0 : Option Addr} {c0 : Nat} {f0 : List Int} {f1 : Int} {f2 : Int} (h : W.heap[g]? = some (.cells #[.slice A0 f0.length c0, .int .i64 f1, .int .i64 f2] 102 (0, 0))) : W.cell? ⟨g, 2, none⟩ = some (.int .i64 f2) := (blk_cell h 2).trans rfl
theorem IsS102.set_2 {w0 W : World} {g : Nat} {f0 : List Int} {f1 : Int} {f2 : Int} (h : IsS102 w0 W g f0 f1 f2) (x : Int) : IsS102 w0 (W.setCell ⟨g, 2, none⟩ (.int .i64 x)) g f0 f1 x := by
 (obtain ⟨A0, c0, hb, hg, hr0⟩ := h); (exact ⟨A0, c0, by simpa using blk_set hb 2 (.int .i64 x), hg, hr0⟩)
theorem IsS102.new (w0 W : World) (A0 : Option Addr) (c0 : Nat) (f0 : List Int) (f1 : Int) (f2 : Int) (hB : Below w0.heap.size w0 W) (hr0 : Kd.C (Kd.int .u8) w0 A0 f0.length f0) : IsS102 w0 (W.alloc (.cells #[.slice A0 f0.length c0, .int .i64 f1, .int .i64 f2] 102)) W.heap.size f0 f1 f2 := ⟨A0, c0, by simpa using heap_alloc_new W _, hB.size, hr0⟩
def spec_l01From.l0 : Nat → List Int → Int → List Int → Int → Int → Option (List Int × Int × Int)
  | 0, _, _, _, _, _ => none
  | k + 1, x0, x4, x283000, x283001, x283002 => if x4 < (x0.length : Int) then (if x4 < 64 then (if 0 ≤ x4 then (spec_l01From.l0 k x0 (wrap64 (x4 + 1)) x283000 x283001 (Int.tmod (wrap64 ((wrap64 (x283002 * 47)) + (wrap64 (rd x0 x4)))) 2147483647)) else (none)) else (some (x283000, x283001, x283002))) else (some (x283000, x283001, x283002))
def spec_l01From.f (k : Nat) (l0 : List Int) : Option (List Int × Int × Int) := spec_l01From.l0 k l0 0 l0 0 61003
def spec_l01From.T5 : Bool × List (List Nat × List Nat) := (true, [([], []), ([], []), ([1], [1]), ([2], [2]), ([3], [3]), ([4], [4]), ([], []), ([], []), ([6, 7], [6, 7]), ([8], [8]), ([9], [9]), ([5, 10], [5, 10]), ([11], [11]), ([0, 0, 1, 2, 3, 4, 5, 6, 7, 8, 9, 10, 11, 12], [0]), ([13, 0, 1, 2, 3, 4, 5, 6, 7, 8, 9, 10, 11, 12], [13]), ([14, 12, 0, 1, 2, 3, 4, 5, 6, 7, 8, 9, 10, 11, 12], [12, 14])])
def spec_l01From.B5 : List Nat := [0, 0, 2, 6, 14, 30, 0, 0, 192, 448, 960, 2046, 4094, 8191, 16383, 32767]
theorem spec_l01From.tab5 : rtab .any (opsOf Try.f72 5) = spec_l01From.T5 := by kernel_rfl
theorem spec_l01From.bits5 : waitsOk spec_l01From.T5.2 spec_l01From.B5 = true := by kernel_rfl
set_option maxHeartbeats 8000000 in
set_option maxRecDepth 100000 in
theorem spec_l01From.calls (k : Nat) (A0 : Option Addr) (c0 : Nat) (l0 : List Int) (r1 : List Int) (r2 : Int) (r3 : Int) (w0 w : World) (hB : Below w0.heap.size w0 w) (hr0 : Kd.C (Kd.int .u8) w0 A0 l0.length l0) (hc0 : l0.length ≤ c0) (h : spec_l01From.f k l0 = some (r1, r2, r3)) :
    Calls Try.prog 72 #[.slice A0 l0.length c0] w fun e w' => ∃ g_ : Nat, e = .returned (.pointer (some ⟨g_, 0, none⟩)) ∧ IsS102 w0 w' g_ r1 r2 r3 ∧ Below w0.heap.size w0 w' ∧ Below w.heap.size w w' := by
 (have hu102 := Try.underlying102); (have HR0 := A0_ hr0); (have HC0 := A0_ hc0); clear hr0 hc0; (have HBW := A0_ (Below.refl w.heap.size w)); (have HW0 := A0_ hB.size); (have HB := A0_ hB); clear hB; (have H : (spec_l01From.l0 k l0 0 l0 0 61003) = some (r1, r2, r3) := h); clear h; (have H' := A0_ H); clear H; (go_enter Try.func72, Try.ntmps72); (go_wp2_with (first | ((with_reducible refine gate_dst (N := 7) rfl ?_); refine box_event ?hg (N := 7) ?hd (cs := #[.slice A0 l0.length c0, .int .i64 0, .int .i64 61003]) (t := 102) ?hr ?_; (case hd => rfl); (case hg => rfl); (case hr => first | (go_simp; done) | (go_simp; rfl)); intro gb282 hg w2 hbox hb; have n0_ := A0_ (below_step HBW.out hb); have n1_ := A0_ (below_step (by repeat (first | (with_reducible first | exact HB.out | apply ba_ | apply bn_ | apply bd_) | exact HB.out)) hb); have n2_ := A0_ (hbox); have n3_ := A0_ ((by rw [hg]; exact (below_size (by repeat (first | (with_reducible first | exact HBW.out | apply ba_ | apply bn_ | apply bd_) | exact HBW.out))) : w.heap.size ≤ gb282)); have n4_ := A0_ ((Nat.le_trans HW0.out (by rw [hg]; exact (below_size (by repeat (first | (with_reducible first | exact HBW.out | apply ba_ | apply bn_ | apply bd_) | exact HBW.out))) : w.heap.size ≤ gb282) : w0.heap.size ≤ gb282)); clear HBW; clear HB; have HBW := n0_; have HB := n1_; have BK282 := n2_; have GW282 := n3_; have GE282 := n4_; clear n0_ n1_ n2_ n3_ n4_; clear hb hbox hg)))
 go_loopg [4] k (fun kq v4 w' => ∃ (x4_1 : Int) (x283002_1 : Int), v4 = .int .i64 x4_1 ∧ Aside0 (spec_l01From.l0 kq l0 x4_1 l0 0 x283002_1 = some (r1, r2, r3)) ∧ Aside0 (kq ≤ k) ∧ Aside0 (w'.heap[gb282]? = some (.cells #[(.slice A0 l0.length c0), .int .i64 0, .int .i64 x283002_1] 102 (0, 0))) ∧ Aside0 (Below w0.heap.size w0 w') ∧ Aside0 (Below w.heap.size w w'))
 case atStart => exact ⟨(0), (61003), (by first | rfl | (simp; done) | (simp [*]; done)), H', ⟨Nat.le_refl _⟩, ⟨by (with_reducible repeat (first | apply gn_ | apply gd_ | apply ga_)); exact BK282.out⟩, ⟨by repeat (first | (with_reducible first | exact HB.out | apply ba_ | apply bn_ | apply bd_ | refine below_set ?_ GE282.out) | exact HB.out)⟩, ⟨by repeat (first | (with_reducible first | exact HBW.out | apply ba_ | apply bn_ | apply bd_ | refine below_set ?_ GW282.out) | exact HBW.out)⟩⟩
 case round =>
  clear H'; (try clear p2); (obtain ⟨x4_1, x283002_1, rfl, HA, HK1, BK282, HB, HBW⟩ := hrel)
  cases gk with
  | zero => exact absurd HA.out (by simp [spec_l01From.l0])
  | succ k1 =>
   (have H := HA.out); clear HA; (simp only [spec_l01From.l0] at H); (by_cases c3 : x4_1 < (l0.length : Int))
   ·(rw [if_pos c3] at H); (have c3b0 : decide (x4_1 < (l0.length : Int)) = true := decide_eq_true c3); clear c3; (by_cases c4 : x4_1 < 64)
    ·(rw [if_pos c4] at H); (have c4b0 : decide (x4_1 < 64) = true := decide_eq_true c4); clear c4; (by_cases c5 : 0 ≤ x4_1)
     ·(rw [if_pos c5] at H); (have c5b0 : decide (0 ≤ x4_1) = true := decide_eq_true c5); clear c5; (have H' := A0_ H); clear H; (try go_wp2); (have n0_ := A0_ (blk_drew BK282.out)); (have HBW := A0_ (below_drew1 HBW.out)); (have n1_ := A0_ (below_drew1 HB.out)); clear BK282; clear HB; (have BK282 := n0_); (have HB := n1_); clear n0_ n1_; (have p283 : 0 ≤ (x4_1 : Int) := of_decide_eq_true (by first | (with_reducible assumption) | assumption)); (have q283 : x4_1 < (l0.length : Int) := of_decide_eq_true (by first | (with_reducible assumption) | assumption)); (obtain ⟨ad283, e283, hx283_0⟩ := Kd.at_int HR0.out x4_1 p283 q283); (have hw283_0 := hx283_0); (cases e283); (replace hx283_0 := pw_cell_below HB.out hx283_0); (replace p283 := eq_true p283); (replace q283 := eq_true q283)
      refine start_ (n := 16) (S := fun w' => w'.cell? ⟨gb282, 0, none⟩ = some (.slice (some ad283) l0.length c0) ∧ w'.cell? ⟨gb282, 1, none⟩ = some (.int .i64 0) ∧ w'.cell? ⟨gb282, 2, none⟩ = some (.int .i64 x283002_1) ∧ w'.cell? (ad283.add (x4_1).toNat) = some (.int .u8 (rd l0 x4_1))) (ds := [15]) #[ff,ff,ff,ff,ff,ff,ff,ff,ff,ff,ff,ff,ff,ff,ff,ff] (by kernel_rfl) rfl rfl ⟨(blk_cell BK282.out 0).trans rfl, (blk_cell BK282.out 1).trans rfl, (blk_cell BK282.out 2).trans rfl, ((HB.out.cell (World.block_lt_of_cell? w0 _ hw283_0)).trans hw283_0)⟩ (fun hHeld => ?_); refine with_tabW spec_l01From.tab5 spec_l01From.bits5 (fun HT_ HW_ => ?_)
      (generalize wr.drew = w6 at BK282 HB HBW hx283_0 hHeld ⊢)
      refine pure_ (i := 0) (N := some 18) (v := ?_) (a' := ?_) #[tt,ff,ff,ff,ff,ff,ff,ff,ff,ff,ff,ff,ff,ff,ff,ff] rfl rfl (any_of HT_.out (by kernel_rfl)) (fun _ _ _ h => h) (Or.inl ⟨by rfl, ?_⟩) ?_ ?_
      rotate_left
      ·intro w'; go_simp; with_reducible rfl
      rotate_left
      ·(simp only [Act.put, sia_, sz_, ss_, i64_w, i32_w]); rfl
      refine pure_ (i := 1) (N := some 19) (v := ?_) (a' := ?_) #[tt,tt,ff,ff,ff,ff,ff,ff,ff,ff,ff,ff,ff,ff,ff,ff] rfl rfl (any_of HT_.out (by kernel_rfl)) (fun _ _ _ h => h) (Or.inl ⟨by rfl, ?_⟩) ?_ ?_
      rotate_left
      ·intro w'; go_simp; with_reducible rfl
      rotate_left
      ·(simp only [Act.put, sia_, sz_, ss_, i64_w, i32_w]); rfl
      refine pure_ (i := 2) (N := some 20) (v := ?_) (a' := ?_) #[tt,tt,tt,ff,ff,ff,ff,ff,ff,ff,ff,ff,ff,ff,ff,ff] rfl rfl (any_of HT_.out (by kernel_rfl)) (fun _ _ _ h => h) (Or.inl ⟨by rfl, ?_⟩) ?_ ?_
      rotate_left
      ·intro w'; go_simp; with_reducible rfl
      rotate_left
      ·(simp only [Act.put, sia_, sz_, ss_, i64_w, i32_w]); rfl
      refine pure_ (i := 3) (N := some 21) (v := ?_) (a' := ?_) #[tt,tt,tt,tt,ff,ff,ff,ff,ff,ff,ff,ff,ff,ff,ff,ff] rfl rfl (any_of HT_.out (by kernel_rfl)) (fun _ _ _ h => h) (Or.inl ⟨by rfl, ?_⟩) ?_ ?_
      rotate_left
      ·intro w'; go_simp; with_reducible rfl
      rotate_left
      ·(simp only [Act.put, sia_, sz_, ss_, i64_w, i32_w]); rfl
      refine pure_ (i := 6) (N := some 24) (v := ?_) (a' := ?_) #[tt,tt,tt,tt,ff,ff,tt,ff,ff,ff,ff,ff,ff,ff,ff,ff] rfl rfl (any_of HT_.out (by kernel_rfl)) (fun _ _ _ h => h) (Or.inl ⟨by rfl, ?_⟩) ?_ ?_
      rotate_left
      ·intro w'; go_simp; with_reducible rfl
      rotate_left
      ·(simp only [Act.put, sia_, sz_, ss_, i64_w, i32_w]); rfl
      refine pure_ (i := 7) (N := some 25) (v := ?_) (a' := ?_) #[tt,tt,tt,tt,ff,ff,tt,tt,ff,ff,ff,ff,ff,ff,ff,ff] rfl rfl (any_of HT_.out (by kernel_rfl)) (fun _ _ _ h => h) (Or.inl ⟨by rfl, ?_⟩) ?_ ?_
      rotate_left
      ·intro w'; go_simp; with_reducible rfl
      rotate_left
      ·(simp only [Act.put, sia_, sz_, ss_, i64_w, i32_w]); rfl
      refine pure_ (i := 8) (N := some 26) (v := ?_) (a' := ?_) #[tt,tt,tt,tt,ff,ff,tt,tt,tt,ff,ff,ff,ff,ff,ff,ff] rfl rfl (any_of HT_.out (by kernel_rfl)) (fun _ _ _ h => h) (Or.inl ⟨by rfl, ?_⟩) ?_ ?_
      rotate_left
      ·intro w'; go_simp; with_reducible rfl
      rotate_left
      ·(simp only [Act.put, sia_, sz_, ss_, i64_w, i32_w]); rfl
      refine take_ (i := 4) (N := some 22) (v := ?_) (a' := ?_) #[tt,tt,tt,tt,tt,ff,tt,tt,tt,ff,ff,ff,ff,ff,ff,ff] rfl rfl (take_ofW HT_.out HW_.out (by kernel_rfl)) (fun _ _ _ h => h) (Or.inl ⟨by rfl, ?_⟩) hHeld ?_ ?_
      rotate_left
      ·(rintro w' ⟨s0, s1, s2, s3⟩); go_simp; with_reducible rfl
      rotate_left
      ·(simp only [Act.put, sia_, sz_, ss_, i64_w, i32_w]); rfl
      refine pure_ (i := 5) (N := some 23) (v := ?_) (a' := ?_) #[tt,tt,tt,tt,tt,tt,tt,tt,tt,ff,ff,ff,ff,ff,ff,ff] rfl rfl (any_of HT_.out (by kernel_rfl)) (fun _ _ _ h => h) (Or.inl ⟨by rfl, ?_⟩) ?_ ?_
      rotate_left
      ·intro w'; go_simp; with_reducible rfl
      rotate_left
      ·(simp only [Act.put, sia_, sz_, ss_, i64_w, i32_w]); rfl
      refine take_ (i := 9) (N := some 27) (v := ?_) (a' := ?_) #[tt,tt,tt,tt,tt,tt,tt,tt,tt,tt,ff,ff,ff,ff,ff,ff] rfl rfl (take_ofW HT_.out HW_.out (by kernel_rfl)) (fun _ _ _ h => h) (Or.inl ⟨by rfl, ?_⟩) hHeld ?_ ?_
      rotate_left
      ·(rintro w' ⟨s0, s1, s2, s3⟩); go_simp; with_reducible rfl
      rotate_left
      ·(simp only [Act.put, sia_, sz_, ss_, i64_w, i32_w]); rfl
      refine pure_ (i := 10) (N := some 28) (v := ?_) (a' := ?_) #[tt,tt,tt,tt,tt,tt,tt,tt,tt,tt,tt,ff,ff,ff,ff,ff] rfl rfl (any_of HT_.out (by kernel_rfl)) (fun _ _ _ h => h) (Or.inl ⟨by rfl, ?_⟩) ?_ ?_
      rotate_left
      ·intro w'; go_simp; with_reducible rfl
      rotate_left
      ·(simp only [Act.put, sia_, sz_, ss_, i64_w, i32_w]); rfl
      refine pure_ (i := 11) (N := some 29) (v := ?_) (a' := ?_) #[tt,tt,tt,tt,tt,tt,tt,tt,tt,tt,tt,tt,ff,ff,ff,ff] rfl rfl (any_of HT_.out (by kernel_rfl)) (fun _ _ _ h => h) (Or.inl ⟨by rfl, ?_⟩) ?_ ?_
      rotate_left
      ·intro w'; go_simp; with_reducible rfl
      rotate_left
      ·(simp only [Act.put, sia_, sz_, ss_, i64_w, i32_w]); rfl
      refine pure_ (i := 12) (N := some 30) (v := ?_) (a' := ?_) #[tt,tt,tt,tt,tt,tt,tt,tt,tt,tt,tt,tt,tt,ff,ff,ff] rfl rfl (any_of HT_.out (by kernel_rfl)) (fun _ _ _ h => h) (Or.inl ⟨by rfl, ?_⟩) ?_ ?_
      rotate_left
      ·intro w'; go_simp; with_reducible rfl
      rotate_left
      ·(simp only [Act.put, sia_, sz_, ss_, i64_w, i32_w]); rfl
      refine pure_ (i := 13) (N := some 31) (v := ?_) (a' := ?_) #[tt,tt,tt,tt,tt,tt,tt,tt,tt,tt,tt,tt,tt,tt,ff,ff] rfl rfl (any_of HT_.out (by kernel_rfl)) (fun _ _ _ h => h) (Or.inl ⟨by rfl, ?_⟩) ?_ ?_
      rotate_left
      ·intro w'; go_simp; with_reducible rfl
      rotate_left
      ·(simp only [Act.put, sia_, sz_, ss_, i64_w, i32_w]); rfl
      refine pure_ (i := 14) (N := some 32) (v := ?_) (a' := ?_) #[tt,tt,tt,tt,tt,tt,tt,tt,tt,tt,tt,tt,tt,tt,tt,ff] rfl rfl (any_of HT_.out (by kernel_rfl)) (fun _ _ _ h => h) (Or.inl ⟨by rfl, ?_⟩) ?_ ?_
      rotate_left
      ·intro w'; go_simp; with_reducible rfl
      rotate_left
      ·(simp only [Act.put, sia_, sz_, ss_, i64_w, i32_w]); rfl
      refine last_ (i := 15) (N := none) #[tt,tt,tt,tt,tt,tt,tt,tt,tt,tt,tt,tt,tt,tt,tt,tt] rfl rfl (one_of HT_.out (by kernel_rfl)) (by decide) (fun K hK => ?_)
      (have hs7 : w6.cell? ⟨gb282, 2, none⟩ = some (.int .i64 x283002_1) := (blk_cell BK282.out 2).trans rfl); (have hfs7 := blk_frozen BK282.out 2); (refine skip_ (w1 := ?_) (by rfl) rfl ?_ ?_); rotate_left
      ·go_simp; rfl
      (refine hK.out _ _ ?_); clear hK K; (refine done_ (done_of HT_.out (by kernel_rfl)) ?_); (try go_wp2); (go_roundg k1)
      case measure => have := HK1.out; omega
      case rel => exact ⟨(wrap64 (x4_1 + 1)), (Int.tmod (wrap64 ((wrap64 (x283002_1 * 47)) + (wrap64 (rd l0 x4_1)))) 2147483647), (by first | rfl | (simp; done) | (simp [*]; done)), H', ⟨by have := HK1.out; omega⟩, ⟨by (with_reducible repeat (first | apply gn_ | apply gd_ | apply ga_)); refine blk_put (cs := #[.slice (some ad283) l0.length c0, .int .i64 0, .int .i64 x283002_1]) ?_ 2 _ rfl; (with_reducible repeat (first | apply gn_ | apply gd_ | apply ga_)); exact BK282.out⟩, ⟨by repeat (first | (with_reducible first | exact HB.out | apply ba_ | apply bn_ | apply bd_ | refine below_set ?_ GE282.out) | exact HB.out)⟩, ⟨by repeat (first | (with_reducible first | exact HBW.out | apply ba_ | apply bn_ | apply bd_ | refine below_set ?_ GW282.out) | exact HBW.out)⟩⟩
     ·(rw [if_neg c5] at H); (exact absurd H (by simp))
    ·(rw [if_neg c4] at H); (have c4b0 : decide (x4_1 < 64) = false := decide_eq_false c4); clear c4; (simp only [Option.some.injEq, Prod.mk.injEq] at H); (obtain ⟨rfl, rfl, rfl⟩ := H); go_wp2; go_ret; (exact ⟨_, rfl, (show IsS102 w0 _ gb282 l0 0 x283002_1 from ⟨_, _, by (with_reducible repeat (first | apply gn_ | apply gd_ | apply ga_)); exact BK282.out, GE282.out, HR0.out⟩), by repeat (first | (with_reducible first | exact HB.out | apply ba_ | apply bn_ | apply bd_ | refine below_set ?_ GE282.out) | exact HB.out), by repeat (first | (with_reducible first | exact HBW.out | apply ba_ | apply bn_ | apply bd_ | refine below_set ?_ GW282.out) | exact HBW.out)⟩)
   ·(rw [if_neg c3] at H); (have c3b0 : decide (x4_1 < (l0.length : Int)) = false := decide_eq_false c3); clear c3; (simp only [Option.some.injEq, Prod.mk.injEq] at H); (obtain ⟨rfl, rfl, rfl⟩ := H); go_wp2; go_ret; (exact ⟨_, rfl, (show IsS102 w0 _ gb282 l0 0 x283002_1 from ⟨_, _, by (with_reducible repeat (first | apply gn_ | apply gd_ | apply ga_)); exact BK282.out, GE282.out, HR0.out⟩), by repeat (first | (with_reducible first | exact HB.out | apply ba_ | apply bn_ | apply bd_ | refine below_set ?_ GE282.out) | exact HB.out), by repeat (first | (with_reducible first | exact HBW.out | apply ba_ | apply bn_ | apply bd_ | refine below_set ?_ GW282.out) | exact HBW.out)⟩)
end Go.Proofs.Ytgcagmmghckbbaa.A

namespace Go.Proofs.Ytgcagmmghckbbaa.A
open Go.RowKit Go.Proofs.YtgcagmmghckbbaaW.PrintWords Go.Proofs.YtgcagmmghckbbaaW.PrintLast Go.Proofs.YtgcagmmghckbbaaW.PrintMore
attribute [local go_sem] max2_int min2_int max_two min_two max_three min_three max_four min_four   -- for this text's walks alone
set_option linter.unusedVariables false
set_option linter.unusedSimpArgs false
def spec_l01Next.f (s0_0 : List Int) (s0_1 : Int) (s0_2 : Int) (a1 : Int) : Option (Int × Int × Int) := if a1 ≤ 1 then (some (0, s0_1, s0_2)) else (if s0_1 < (s0_0.length : Int) then (if 0 ≤ s0_1 then (if a1 ≤ 256 then (if (Int.tmod (wrap64 (s0_1 + 1)) 2) = 0 then (if 0 ≤ (wrap64 ((wrap64 (s0_1 + 1)) - 1)) then (if (wrap64 ((wrap64 (s0_1 + 1)) - 1)) < (s0_0.length : Int) then (if a1 = 0 then (none) else (some (Int.tmod (wrap64 (rd s0_0 (wrap64 ((wrap64 (s0_1 + 1)) - 1)))) a1, wrap64 (s0_1 + 1), Int.tmod (wrap64 ((wrap64 (s0_2 * 48271)) + 29)) 2147483647))) else (none)) else (none)) else (if a1 = 0 then (none) else (some (Int.tmod (wrap64 ((wrap64 (Int.tdiv (Int.tmod (wrap64 ((wrap64 (s0_2 * 48271)) + 29)) 2147483647) 31)) + (wrap64 (rd s0_0 s0_1)))) a1, wrap64 (s0_1 + 1), Int.tmod (wrap64 ((wrap64 (s0_2 * 48271)) + 29)) 2147483647)))) else (if a1 = 0 then (none) else (some (Int.tmod (wrap64 ((wrap64 (Int.tdiv (Int.tmod (wrap64 ((wrap64 (s0_2 * 48271)) + 29)) 2147483647) 31)) + (wrap64 (rd s0_0 s0_1)))) a1, wrap64 (s0_1 + 1), Int.tmod (wrap64 ((wrap64 (s0_2 * 48271)) + 29)) 2147483647)))) else (none)) else (if a1 = 0 then (none) else (some (Int.tmod (wrap64 (Int.tdiv (Int.tmod (wrap64 ((wrap64 (s0_2 * 48271)) + 29)) 2147483647) 31)) a1, s0_1, Int.tmod (wrap64 ((wrap64 (s0_2 * 48271)) + 29)) 2147483647))))
set_option maxHeartbeats 8000000 in
set_option maxRecDepth 100000 in
theorem spec_l01Next.calls (g : Nat) (s0_0 : List Int) (s0_1 : Int) (s0_2 : Int) (a1 : Int) (r1 : Int) (r2 : Int) (r3 : Int) (w0 w : World) (hI : IsS102 w0 w g s0_0 s0_1 s0_2) (hB : Below w0.heap.size w0 w) (h : spec_l01Next.f s0_0 s0_1 s0_2 a1 = some (r1, r2, r3)) :
    Calls Try.prog 74 #[.pointer (some ⟨g, 0, none⟩), .int .i64 a1] w fun e w' => e = .returned (.int .i64 r1) ∧ IsS102 w0 w' g s0_0 r2 r3 ∧ Below w0.heap.size w0 w' ∧ KeepBut w w' g none := by
 (have HI0 := A0_ hI); (have HK := A0_ (KeepBut.refl w g none)); (have HL := A0_ hB.size); clear hI; (have HW0 := A0_ hB.size); (have HB := A0_ hB); clear hB; (have H : (if a1 ≤ 1 then (some (0, s0_1, s0_2)) else (if s0_1 < (s0_0.length : Int) then (if 0 ≤ s0_1 then (if a1 ≤ 256 then (if (Int.tmod (wrap64 (s0_1 + 1)) 2) = 0 then (if 0 ≤ (wrap64 ((wrap64 (s0_1 + 1)) - 1)) then (if (wrap64 ((wrap64 (s0_1 + 1)) - 1)) < (s0_0.length : Int) then (if a1 = 0 then (none) else (some (Int.tmod (wrap64 (rd s0_0 (wrap64 ((wrap64 (s0_1 + 1)) - 1)))) a1, wrap64 (s0_1 + 1), Int.tmod (wrap64 ((wrap64 (s0_2 * 48271)) + 29)) 2147483647))) else (none)) else (none)) else (if a1 = 0 then (none) else (some (Int.tmod (wrap64 ((wrap64 (Int.tdiv (Int.tmod (wrap64 ((wrap64 (s0_2 * 48271)) + 29)) 2147483647) 31)) + (wrap64 (rd s0_0 s0_1)))) a1, wrap64 (s0_1 + 1), Int.tmod (wrap64 ((wrap64 (s0_2 * 48271)) + 29)) 2147483647)))) else (if a1 = 0 then (none) else (some (Int.tmod (wrap64 ((wrap64 (Int.tdiv (Int.tmod (wrap64 ((wrap64 (s0_2 * 48271)) + 29)) 2147483647) 31)) + (wrap64 (rd s0_0 s0_1)))) a1, wrap64 (s0_1 + 1), Int.tmod (wrap64 ((wrap64 (s0_2 * 48271)) + 29)) 2147483647)))) else (none)) else (if a1 = 0 then (none) else (some (Int.tmod (wrap64 (Int.tdiv (Int.tmod (wrap64 ((wrap64 (s0_2 * 48271)) + 29)) 2147483647) 31)) a1, s0_1, Int.tmod (wrap64 ((wrap64 (s0_2 * 48271)) + 29)) 2147483647))))) = some (r1, r2, r3) := h); clear h; (by_cases c3 : a1 ≤ 1)
 ·(rw [if_pos c3] at H); (have c3b0 : decide (a1 ≤ 1) = true := decide_eq_true c3); clear c3; (simp only [Option.some.injEq, Prod.mk.injEq] at H); (obtain ⟨rfl, rfl, rfl⟩ := H); (go_enter Try.func74, Try.ntmps74); go_wp2; (repeat (go_quiet (fail); try go_wp2)); go_ret; (exact ⟨by first | rfl | (simp [errW_none, errW_some] <;> rfl) | (simp [*, errW_none, errW_some] <;> rfl), by repeat (first | (with_reducible first | exact HI0.out | apply IsS102.alloc | apply IsS102.drewN | apply IsS102.drew | apply IsS102.set_1 | apply IsS102.set_2) | exact HI0.out), by repeat (first | (with_reducible first | exact HB.out | apply ba_ | apply bn_ | apply bd_ | refine below_set ?_ (IsS102.ge HI0.out)) | exact HB.out), by repeat (first | (with_reducible first | exact HK.out | apply ks_ | apply kn_ | apply kd_ | apply ka_) | exact HK.out)⟩)
 ·(rw [if_neg c3] at H); (have c3b0 : decide (a1 ≤ 1) = false := decide_eq_false c3); clear c3; (by_cases c4 : s0_1 < (s0_0.length : Int))
  ·(rw [if_pos c4] at H); (have c4b0 : decide (s0_1 < (s0_0.length : Int)) = true := decide_eq_true c4); clear c4; (by_cases c5 : 0 ≤ s0_1)
   ·(rw [if_pos c5] at H); (have c5b0 : decide (0 ≤ s0_1) = true := decide_eq_true c5); clear c5; (by_cases c6 : a1 ≤ 256)
    ·(rw [if_pos c6] at H); (have c6b0 : decide (a1 ≤ 256) = true := decide_eq_true c6); clear c6; (by_cases c7 : (Int.tmod (wrap64 (s0_1 + 1)) 2) = 0)
     ·(rw [if_pos c7] at H); (have c7b0 : ((Int.tmod (wrap64 (s0_1 + 1)) 2) == 0) = true := beq_iff_eq.mpr c7); (have c7b1 : ((Int.tmod (wrap64 (s0_1 + 1)) 2) != 0) = false := bne_eq_false_iff_eq.mpr c7); clear c7; (obtain ⟨ji8, hji8⟩ : ∃ j_ : Int, (wrap64 ((wrap64 (s0_1 + 1)) - 1)) = j_ := ⟨_, rfl⟩); (replace H : (if 0 ≤ (ji8) then (if (ji8) < (s0_0.length : Int) then (if a1 = 0 then (none) else (some (Int.tmod (wrap64 (rd s0_0 (ji8))) a1, wrap64 (s0_1 + 1), Int.tmod (wrap64 ((wrap64 (s0_2 * 48271)) + 29)) 2147483647))) else (none)) else (none)) = some (r1, r2, r3) := by first | (rw [hji8] at H; exact H) | (simp only [hji8] at H ⊢; exact H)); (have hji8w : (IntKind.i64.wrap ((wrap64 (s0_1 + 1)) - 1)) = ji8 := (i64_w _).trans hji8); (by_cases c9 : 0 ≤ (ji8))
      ·(rw [if_pos c9] at H); (have c9b0 : decide (0 ≤ (ji8)) = true := decide_eq_true c9); clear c9; (by_cases c10 : (ji8) < (s0_0.length : Int))
       ·(rw [if_pos c10] at H); (have c10b0 : decide ((ji8) < (s0_0.length : Int)) = true := decide_eq_true c10); clear c10; (by_cases c11 : a1 = 0)
        ·(rw [if_pos c11] at H); (exact absurd H (by simp))
        ·(rw [if_neg c11] at H); (have c11b0 : (a1 == 0) = false := beq_eq_false_iff_ne.mpr c11); (have c11b1 : (a1 != 0) = true := bne_iff_ne.mpr c11); (simp only [Option.some.injEq, Prod.mk.injEq] at H); (obtain ⟨rfl, rfl, rfl⟩ := H); (obtain ⟨ASz12_0, cSz12_0, HGz12, hgz12, HSz12_0⟩ := HI0.out); (have hcz12_0 := cellS102_0 HGz12); (have hcz12_1 := cellS102_1 HGz12); (have hcz12_2 := cellS102_2 HGz12); (have hfz12_1 := blk_frozen HGz12 1); (have hfz12_2 := blk_frozen HGz12 2); clear HGz12 hgz12; (have p284 : 0 ≤ (s0_1 : Int) := of_decide_eq_true (by first | (with_reducible assumption) | assumption)); (have q284 : s0_1 < (s0_0.length : Int) := of_decide_eq_true (by first | (with_reducible assumption) | assumption)); (obtain ⟨ad284, e284, hx284_0⟩ := Kd.at_int HSz12_0 s0_1 p284 q284); (cases e284); (have hn284_0 : ad284.block ≠ g := Nat.ne_of_lt (Nat.lt_of_lt_of_le (by have := World.block_lt_of_cell? _ _ hx284_0; first | rwa [add_block] at this | exact this) (IsS102.ge HI0.out))); (replace hx284_0 := pw_cell_below HB.out hx284_0); (replace hx284_0 := (cell_far (p := ⟨g, 2, none⟩) (by first | (rw [add_block]; exact hn284_0) | (show (Addr.add _ _).block ≠ _; rw [add_block]; exact hn284_0) | exact hn284_0) (.int .i64 (Int.tmod (wrap64 ((wrap64 (s0_2 * 48271)) + 29)) 2147483647))).trans hx284_0)
         (try have hy284_0 := fun (n_ : Nat) => (show (((w.drewN n_).setCell ⟨g, 2, none⟩ (.int .i64 (Int.tmod (wrap64 ((wrap64 (s0_2 * 48271)) + 29)) 2147483647)))).cell? _ = some _ from hx284_0))
         clear hn284_0; (replace p284 := eq_true p284); (replace q284 := eq_true q284); (have p285 : 0 ≤ ((ji8) : Int) := of_decide_eq_true (by first | (with_reducible assumption) | assumption)); (have q285 : (ji8) < (s0_0.length : Int) := of_decide_eq_true (by first | (with_reducible assumption) | assumption)); (obtain ⟨ad285, e285, hx285_0⟩ := Kd.at_int HSz12_0 (ji8) p285 q285); (obtain rfl : ad284 = ad285 := (by injection e285)); (have hn285_0 : ad284.block ≠ g := Nat.ne_of_lt (Nat.lt_of_lt_of_le (by have := World.block_lt_of_cell? _ _ hx285_0; first | rwa [add_block] at this | exact this) (IsS102.ge HI0.out))); (have hn285_1 : ad284.block ≠ g := Nat.ne_of_lt (Nat.lt_of_lt_of_le (by have := World.block_lt_of_cell? _ _ hx285_0; first | rwa [add_block] at this | exact this) (IsS102.ge HI0.out))); (replace hx285_0 := pw_cell_below HB.out hx285_0); (replace hx285_0 := (cell_far (p := ⟨g, 2, none⟩) (by first | (rw [add_block]; exact hn285_0) | (show (Addr.add _ _).block ≠ _; rw [add_block]; exact hn285_0) | exact hn285_0) (.int .i64 (Int.tmod (wrap64 ((wrap64 (s0_2 * 48271)) + 29)) 2147483647))).trans hx285_0); (replace hx285_0 := (cell_far (p := ⟨g, 1, none⟩) (by first | (rw [add_block]; exact hn285_1) | (show (Addr.add _ _).block ≠ _; rw [add_block]; exact hn285_1) | exact hn285_1) (.int .i64 (wrap64 (s0_1 + 1)))).trans hx285_0)
         (try have hy285_0 := fun (n_ : Nat) => (show ((((w.drewN n_).setCell ⟨g, 2, none⟩ (.int .i64 (Int.tmod (wrap64 ((wrap64 (s0_2 * 48271)) + 29)) 2147483647))).setCell ⟨g, 1, none⟩ (.int .i64 (wrap64 (s0_1 + 1))))).cell? _ = some _ from hx285_0))
         (try have hz285_0 := fun (n_ : Nat) => (show ((((w.setCell ⟨g, 2, none⟩ (.int .i64 (Int.tmod (wrap64 ((wrap64 (s0_2 * 48271)) + 29)) 2147483647))).drewN n_).setCell ⟨g, 1, none⟩ (.int .i64 (wrap64 (s0_1 + 1))))).cell? _ = some _ from hx285_0))
         clear hn285_0; clear hn285_1; (replace p285 := eq_true p285); (replace q285 := eq_true q285); (go_enter Try.func74, Try.ntmps74); go_wp2; (repeat (go_quiet (fail); try go_wp2)); go_ret; (exact ⟨by first | rfl | (simp [errW_none, errW_some] <;> rfl) | (simp only [← hji8]; first | rfl | (simp [errW_none, errW_some] <;> rfl)) | (simp [*, errW_none, errW_some] <;> rfl), by repeat (first | (with_reducible first | exact HI0.out | apply IsS102.alloc | apply IsS102.drewN | apply IsS102.drew | apply IsS102.set_1 | apply IsS102.set_2) | exact HI0.out), by repeat (first | (with_reducible first | exact HB.out | apply ba_ | apply bn_ | apply bd_ | refine below_set ?_ (IsS102.ge HI0.out)) | exact HB.out), by repeat (first | (with_reducible first | exact HK.out | apply ks_ | apply kn_ | apply kd_ | apply ka_) | exact HK.out)⟩)
       ·(rw [if_neg c10] at H); (exact absurd H (by simp))
      ·(rw [if_neg c9] at H); (exact absurd H (by simp))
     ·(rw [if_neg c7] at H); (have c7b0 : ((Int.tmod (wrap64 (s0_1 + 1)) 2) == 0) = false := beq_eq_false_iff_ne.mpr c7); (have c7b1 : ((Int.tmod (wrap64 (s0_1 + 1)) 2) != 0) = true := bne_iff_ne.mpr c7); (by_cases c13 : a1 = 0)
      ·(rw [if_pos c13] at H); (exact absurd H (by simp))
      ·(rw [if_neg c13] at H); (have c13b0 : (a1 == 0) = false := beq_eq_false_iff_ne.mpr c13); (have c13b1 : (a1 != 0) = true := bne_iff_ne.mpr c13); (simp only [Option.some.injEq, Prod.mk.injEq] at H); (obtain ⟨rfl, rfl, rfl⟩ := H); (obtain ⟨ASz14_0, cSz14_0, HGz14, hgz14, HSz14_0⟩ := HI0.out); (have hcz14_0 := cellS102_0 HGz14); (have hcz14_1 := cellS102_1 HGz14); (have hcz14_2 := cellS102_2 HGz14); (have hfz14_1 := blk_frozen HGz14 1); (have hfz14_2 := blk_frozen HGz14 2); clear HGz14 hgz14; (have p284 : 0 ≤ (s0_1 : Int) := of_decide_eq_true (by first | (with_reducible assumption) | assumption)); (have q284 : s0_1 < (s0_0.length : Int) := of_decide_eq_true (by first | (with_reducible assumption) | assumption)); (obtain ⟨ad284, e284, hx284_0⟩ := Kd.at_int HSz14_0 s0_1 p284 q284); (cases e284); (have hn284_0 : ad284.block ≠ g := Nat.ne_of_lt (Nat.lt_of_lt_of_le (by have := World.block_lt_of_cell? _ _ hx284_0; first | rwa [add_block] at this | exact this) (IsS102.ge HI0.out))); (replace hx284_0 := pw_cell_below HB.out hx284_0); (replace hx284_0 := (cell_far (p := ⟨g, 2, none⟩) (by first | (rw [add_block]; exact hn284_0) | (show (Addr.add _ _).block ≠ _; rw [add_block]; exact hn284_0) | exact hn284_0) (.int .i64 (Int.tmod (wrap64 ((wrap64 (s0_2 * 48271)) + 29)) 2147483647))).trans hx284_0)
       (try have hy284_0 := fun (n_ : Nat) => (show (((w.drewN n_).setCell ⟨g, 2, none⟩ (.int .i64 (Int.tmod (wrap64 ((wrap64 (s0_2 * 48271)) + 29)) 2147483647)))).cell? _ = some _ from hx284_0))
       clear hn284_0; (replace p284 := eq_true p284); (replace q284 := eq_true q284); (go_enter Try.func74, Try.ntmps74); go_wp2; (repeat (go_quiet (fail); try go_wp2)); go_ret; (exact ⟨by first | rfl | (simp [errW_none, errW_some] <;> rfl) | (simp [*, errW_none, errW_some] <;> rfl), by repeat (first | (with_reducible first | exact HI0.out | apply IsS102.alloc | apply IsS102.drewN | apply IsS102.drew | apply IsS102.set_1 | apply IsS102.set_2) | exact HI0.out), by repeat (first | (with_reducible first | exact HB.out | apply ba_ | apply bn_ | apply bd_ | refine below_set ?_ (IsS102.ge HI0.out)) | exact HB.out), by repeat (first | (with_reducible first | exact HK.out | apply ks_ | apply kn_ | apply kd_ | apply ka_) | exact HK.out)⟩)
    ·(rw [if_neg c6] at H); (have c6b0 : decide (a1 ≤ 256) = false := decide_eq_false c6); clear c6; (by_cases c15 : a1 = 0)
     ·(rw [if_pos c15] at H); (exact absurd H (by simp))
     ·(rw [if_neg c15] at H); (have c15b0 : (a1 == 0) = false := beq_eq_false_iff_ne.mpr c15); (have c15b1 : (a1 != 0) = true := bne_iff_ne.mpr c15); (simp only [Option.some.injEq, Prod.mk.injEq] at H); (obtain ⟨rfl, rfl, rfl⟩ := H); (obtain ⟨ASz16_0, cSz16_0, HGz16, hgz16, HSz16_0⟩ := HI0.out); (have hcz16_0 := cellS102_0 HGz16); (have hcz16_1 := cellS102_1 HGz16); (have hcz16_2 := cellS102_2 HGz16); (have hfz16_1 := blk_frozen HGz16 1); (have hfz16_2 := blk_frozen HGz16 2); clear HGz16 hgz16; (have p284 : 0 ≤ (s0_1 : Int) := of_decide_eq_true (by first | (with_reducible assumption) | assumption)); (have q284 : s0_1 < (s0_0.length : Int) := of_decide_eq_true (by first | (with_reducible assumption) | assumption)); (obtain ⟨ad284, e284, hx284_0⟩ := Kd.at_int HSz16_0 s0_1 p284 q284); (cases e284); (have hn284_0 : ad284.block ≠ g := Nat.ne_of_lt (Nat.lt_of_lt_of_le (by have := World.block_lt_of_cell? _ _ hx284_0; first | rwa [add_block] at this | exact this) (IsS102.ge HI0.out))); (replace hx284_0 := pw_cell_below HB.out hx284_0); (replace hx284_0 := (cell_far (p := ⟨g, 2, none⟩) (by first | (rw [add_block]; exact hn284_0) | (show (Addr.add _ _).block ≠ _; rw [add_block]; exact hn284_0) | exact hn284_0) (.int .i64 (Int.tmod (wrap64 ((wrap64 (s0_2 * 48271)) + 29)) 2147483647))).trans hx284_0)
      (try have hy284_0 := fun (n_ : Nat) => (show (((w.drewN n_).setCell ⟨g, 2, none⟩ (.int .i64 (Int.tmod (wrap64 ((wrap64 (s0_2 * 48271)) + 29)) 2147483647)))).cell? _ = some _ from hx284_0))
      clear hn284_0; (replace p284 := eq_true p284); (replace q284 := eq_true q284); (go_enter Try.func74, Try.ntmps74); go_wp2; (repeat (go_quiet (fail); try go_wp2)); go_ret; (exact ⟨by first | rfl | (simp [errW_none, errW_some] <;> rfl) | (simp [*, errW_none, errW_some] <;> rfl), by repeat (first | (with_reducible first | exact HI0.out | apply IsS102.alloc | apply IsS102.drewN | apply IsS102.drew | apply IsS102.set_1 | apply IsS102.set_2) | exact HI0.out), by repeat (first | (with_reducible first | exact HB.out | apply ba_ | apply bn_ | apply bd_ | refine below_set ?_ (IsS102.ge HI0.out)) | exact HB.out), by repeat (first | (with_reducible first | exact HK.out | apply ks_ | apply kn_ | apply kd_ | apply ka_) | exact HK.out)⟩)
   ·(rw [if_neg c5] at H); (exact absurd H (by simp))
  ·(rw [if_neg c4] at H); (have c4b0 : decide (s0_1 < (s0_0.length : Int)) = false := decide_eq_false c4); clear c4; (by_cases c17 : a1 = 0)
   ·(rw [if_pos c17] at H); (exact absurd H (by simp))
   ·(rw [if_neg c17] at H); (have c17b0 : (a1 == 0) = false := beq_eq_false_iff_ne.mpr c17); (have c17b1 : (a1 != 0) = true := bne_iff_ne.mpr c17); (simp only [Option.some.injEq, Prod.mk.injEq] at H); (obtain ⟨rfl, rfl, rfl⟩ := H); (obtain ⟨ASz18_0, cSz18_0, HGz18, hgz18, HSz18_0⟩ := HI0.out); (have hcz18_0 := cellS102_0 HGz18); (have hcz18_1 := cellS102_1 HGz18); (have hcz18_2 := cellS102_2 HGz18); (have hfz18_1 := blk_frozen HGz18 1); (have hfz18_2 := blk_frozen HGz18 2); clear HGz18 hgz18; (go_enter Try.func74, Try.ntmps74); go_wp2; (repeat (go_quiet (fail); try go_wp2)); go_ret; (exact ⟨by first | rfl | (simp [errW_none, errW_some] <;> rfl) | (simp [*, errW_none, errW_some] <;> rfl), by repeat (first | (with_reducible first | exact HI0.out | apply IsS102.alloc | apply IsS102.drewN | apply IsS102.drew | apply IsS102.set_1 | apply IsS102.set_2) | exact HI0.out), by repeat (first | (with_reducible first | exact HB.out | apply ba_ | apply bn_ | apply bd_ | refine below_set ?_ (IsS102.ge HI0.out)) | exact HB.out), by repeat (first | (with_reducible first | exact HK.out | apply ks_ | apply kn_ | apply kd_ | apply ka_) | exact HK.out)⟩)
end Go.Proofs.Ytgcagmmghckbbaa.A

