/- What the row of the law FnLeaving stands on, part 3. -/
import Derived.Test.YtcobnlilmihjfaaMFnLeaving2
namespace Go.Proofs.Ytcobnlilmihjfaa.A
open Go.RowKit Go.Proofs.YtcobnlilmihjfaaW.PrintWords Go.Proofs.YtcobnlilmihjfaaW.PrintLast Go.Proofs.YtcobnlilmihjfaaW.PrintMore
set_option linter.unusedVariables false
set_option linter.unusedSimpArgs false
def spec_l27Leaves.f (k : Nat) (l : List (List Cb)) (offs : List Cb) (p d : Int) : Option Bool := if LvOk l offs p d then some (leavesP l offs p d) else none
theorem move_at' (l : List Cb) (d : Cb) (h : l.length ≤ 1048576) : ∃ K m, m = (l.map fun c => addC c d) ∧ m.length = l.length ∧ spec_l09Move.f K l d.f0 d.f1 d.f2 = some m := by
 (obtain ⟨K, hK⟩ := (smove_ev l d h).rounds); (exact ⟨K, _, rfl, List.length_map _, hK⟩)
def slvF.T1 : Bool × List (List Nat × List Nat) := (true, [([], []), ([0], [0]), ([], []), ([1, 2], [1, 2]), ([3], [3]), ([], []), ([], []), ([5, 6], [5, 6]), ([7], [7]), ([4, 8], [4, 8]), ([9, 9, 0, 1, 2, 3, 4, 5, 6, 7, 8, 9], [9])])
def slvF.B1 : List Nat := [0, 1, 0, 7, 15, 0, 0, 96, 224, 511, 1023]
theorem slvF.tab1 : rtab .any (opsOf Try.f65 1) = slvF.T1 := by kernel_rfl
theorem slvF.bits1 : waitsOk slvF.T1.2 slvF.B1 = true := by kernel_rfl
def slvF.T9 : Bool × List (List Nat × List Nat) := (true, [([], []), ([], []), ([0, 1], [0, 1]), ([2], [2]), ([3], [3]), ([3], [3]), ([5, 3], [3, 5]), ([3], [3]), ([6, 7, 3], [3, 6, 7]), ([8, 3], [3, 8]), ([3], [3]), ([3], [3]), ([10, 11, 3], [3, 10, 11]), ([12, 3], [3, 12]), ([9, 13, 3, 3], [3, 9, 13]), ([4, 14, 14, 3], [3, 4, 14]), ([3, 15], [3, 15])])
def slvF.B9 : List Nat := [0, 0, 3, 7, 15, 15, 47, 15, 239, 495, 15, 15, 3087, 7183, 16367, 32767, 65535]
theorem slvF.tab9 : rtab .any (opsOf Try.f65 9) = slvF.T9 := by kernel_rfl
theorem slvF.bits9 : waitsOk slvF.T9.2 slvF.B9 = true := by kernel_rfl
set_option maxHeartbeats 4000000 in
set_option maxRecDepth 100000 in
theorem spec_l27Leaves.calls (k : Nat) (A0_0 : Option Addr) (c0_0 : Nat) (l0_0 : List (List Cb)) (A1 : Option Addr) (c1 : Nat) (l1 : List Cb) (a2 a3 : Int) (r : Bool) (w : World) (hr0_0 : Kd.C (Kd.slice 94 k94) w A0_0 l0_0.length l0_0) (hc0_0 : l0_0.length ≤ c0_0) (hr1 : Kd.C k94 w A1 l1.length l1) (hc1 : l1.length ≤ c1) (h : spec_l27Leaves.f k l0_0 l1 a2 a3 = some r) :
    Calls Try.prog 65 #[.agg #[.slice A0_0 l0_0.length c0_0], .slice A1 l1.length c1, .int .i64 a2, .int .i64 a3] w fun e w' => e = .returned (.bool r) ∧ Below w.heap.size w w' := by
 (have hu32 := Try.underlying26); (have hu69 := Try.underlying94); (unfold spec_l27Leaves.f at h); (split at h)
 case isFalse => cases h
 (rename_i hz); (obtain ⟨⟨hl, h8⟩, hsz, hcb, hob, ⟨hp0, hp1⟩, hd⟩ := hz); (obtain ⟨p, rfl⟩ : ∃ p : Nat, a2 = (p : Int) := ⟨a2.toNat, by omega⟩); (have hpl : p < l0_0.length := by omega); (obtain rfl := Option.some.inj h); (have HR0 := A0_ hr0_0); (have HR1 := A0_ hr1); (have HLN := A0_ hl); (have H8 := A0_ h8); (have HSZ := A0_ hsz); (have HP := A0_ hpl); (have HS := A0_ (Sp.start w)); (have HVE := A0_ (vec_eq a3 hd))
 have hlp0 := fun (v : Cb) (hv : inCb v (-1) 1 = true) (i : Nat) (hi : i < l0_0.length) (j : Nat) (hj : j ≤ 40) => leave_pair l0_0 l1 p i hpl hi hl hcb hob v hv j hj
 (have hvs := vec_small a3 hd)
 have hle : leavesP l0_0 l1 p a3 = (List.range 40).all fun j => aloneP l0_0 l1 p (stepO (oAt l1 p) (vecP a3) (j + 1)) := rfl
 (have hplen := hsz _ (pAt_mem l0_0 p hpl)); (have q0 : (0 ≤ (p : Int)) = True := eq_true (by omega)); (have q1 : ((p : Int) < (l0_0.length : Int)) = True := eq_true (by omega)); (have q2 : (p < l0_0.length) = True := eq_true hpl); (have q3 : ((p : Int) < (l1.length : Int)) = True := eq_true (by omega)); (have q4 : (p < l1.length) = True := eq_true (by omega)); (obtain ⟨adp, Ai, ci_, e, hy0, hy1, hy2⟩ := at_L3 hr0_0 (p : Int) (by omega) (by omega)); subst e; (rw [show rd_L3 l0_0 (p : Int) = pAt l0_0 p from rfl] at hy0 hy1 hy2); (rw [Int.toNat_natCast] at hy0); (obtain ⟨ado, e, hx0, hx1, hx2⟩ := at_T94 hr1 (p : Int) (by omega) (by omega)); subst e; (rw [show rd_T94 l1 (p : Int) = oAt l1 p from rfl] at hx0 hx1 hx2); (rw [Int.toNat_natCast] at hx0 hx1 hx2); (obtain ⟨v, hv⟩ : ∃ v, v = vecP a3 := ⟨_, rfl⟩); (rw [← hv] at hvs hle HVE); (have hlp := hlp0 v hvs); clear hlp0; (obtain ⟨P, hP⟩ : ∃ P, P = pAt l0_0 p := ⟨_, rfl⟩)
 change ∀ i, i < l0_0.length → ∀ j, j ≤ 40 → (((pAt l0_0 p).map fun c => addC c (stepO (oAt l1 p) v j)).any fun c => ((pAt l0_0 i).map fun c => addC c (oAt l1 i)).contains c) = touchP l0_0 i p (subC (stepO (oAt l1 p) v j) (oAt l1 i)) at hlp
 (rw [← hP] at hlp hy0 hy1 hy2 hplen); (obtain ⟨o, ho⟩ : ∃ o, o = oAt l1 p := ⟨_, rfl⟩); (rw [← ho] at hlp hle hx0 hx1 hx2); (obtain ⟨R, hR⟩ : ∃ R, R = leavesP l0_0 l1 p a3 := ⟨_, rfl⟩); (rw [← hR] at hle ⊢); (have HLP := A0_ hlp); (have HLE := A0_ hle); (have HPL := A0_ hplen); (have HP0 := A0_ hy0); (have HP1 := A0_ hy1); (have HP2 := A0_ hy2); (have HO0 := A0_ hx0); (have HO1 := A0_ hx1); (have HO2 := A0_ hx2); (obtain ⟨K0, m0, hm0, hl0, hK0⟩ := move_at' P o hplen); (have HK0 := A0_ hK0); (have HM0 := A0_ hm0); clear hr0_0 hr1 hl h8 hsz hcb hob hp0 hp1 hd hpl h hlp hvs hle hplen hv hP ho hR hx0 hx1 hx2 hy0 hy1 hy2 hK0 hm0 hl0; (go_enter Try.func65, Try.ntmps65)
 go_wp2_with (first
  | ((with_reducible refine gate_dst (N := 4) rfl ?_); refine be_ (N := 4) (cs := #[.slice (some adp) l0_0.length c0_0]) (t := 26) ?_; intro ga hgb_ wb_ hcb_ hbb_; replace HS := A0_ (Sp.boxed HS.out hgb_ hcb_ hbb_); clear hgb_ hcb_ hbb_))
 (replace HS := A0_ (show Sp w ([Res.blk ga #[.slice (some adp) l0_0.length c0_0] 26] ++ ([] : List Res)) wb_.drew from Sp.drew HS.out))
 refine start_ (n := 11) (S := fun w' => w'.cell? ⟨ga, 0, none⟩ = some (.slice (some adp) l0_0.length c0_0) ∧ w'.cell? (adp.add p) = some (.slice Ai P.length ci_) ∧ w'.cell? (ado.add (p * 3)) = some (.int .i64 o.f0) ∧ w'.cell? ⟨(ado.add (p * 3)).block, (ado.add (p * 3)).off + 1, none⟩ = some (.int .i64 o.f1) ∧ w'.cell? ⟨(ado.add (p * 3)).block, (ado.add (p * 3)).off + 2, none⟩ = some (.int .i64 o.f2)) (ds := []) #[ff,ff,ff,ff,ff,ff,ff,ff,ff,ff,ff] (by kernel_rfl) rfl rfl (⟨(cl_ HS 0 0 rfl).trans rfl, pw_cell_below HS.out.below HP0.out, pw_cell_below HS.out.below HO0.out, pw_cell_below HS.out.below HO1.out, pw_cell_below HS.out.below HO2.out⟩) (fun hHeld => ?_)
 refine with_tabW slvF.tab1 slvF.bits1 (fun HT_ HW_ => ?_)
 (generalize wb_.drew = wD at HS hHeld ⊢); (refine on_ 0 (some 12) ?_); (refine tk_ 1 (some 13) ?_); (refine on_ 2 (some 14) ?_); (refine on_ 3 (some 15) ?_); (refine tk_ 4 (some 16) ?_); (refine on_ 5 (some 17) ?_); (refine on_ 6 (some 18) ?_); (refine on_ 7 (some 19) ?_); (refine tk_ 8 (some 20) ?_)
 refine o1_ 9 (some 21) (fun K hK => ?_)
 (refine gs_ Try.func93 #[.slice Ai P.length ci_, .agg #[.int .i64 o.f0, .int .i64 o.f1, .int .i64 o.f2]] ?_); (refine (spec_l09Move.calls K0 Ai ci_ P o.f0 o.f1 o.f2 m0 _ (Kd.C_below HP2.out HS.out.below) HP1.out HK0.out).mono ?_); (rintro e wA11 ⟨vA11, rfl, ho, hb⟩); (refine ⟨_, rfl, ?_⟩); (replace HS := A0_ (Sp.made' HS.out hb ho)); clear hb ho; (obtain ⟨AA11, cA11, rfl⟩ := Sp.slice HS.out (i := 0) rfl)
 refine hK.out _ _ (⟨(cl_ HS 1 0 rfl).trans rfl, pw_cell_below HS.out.below HP0.out, pw_cell_below HS.out.below HO0.out, pw_cell_below HS.out.below HO1.out, pw_cell_below HS.out.below HO2.out⟩) (fun hHeld => ?_)
 clear hK K; (refine nm_ (some 21) ?_); (refine on_ 10 (some 9) ?_); (refine dn_ ?_); go_wp2
 go_loopg [9, 10] 41 (fun kq v9 v10 w' => ∃ (j : Nat) (M : List Cb) (Am : Option Addr) (cm : Nat), v10 = .int .i64 (j : Int) ∧ v9 = .slice Am M.length cm ∧ Aside0 (j ≤ 40 ∧ kq + j = 41 ∧ M = (P.map fun c => addC c (stepO o v j)) ∧ (List.range j).all (fun j => aloneP l0_0 l1 p (stepO o v (j + 1))) = true) ∧ Aside0 (Sp w [Res.row k94 94 w.heap.size (.slice Am M.length cm) M, Res.blk ga #[.slice (some adp) l0_0.length c0_0] 26] w'))
 case atStart => exact ⟨0, m0, AA11, cA11, rfl, rfl, ⟨by omega, by omega, HM0.out, rfl⟩, HS⟩
 case round =>
  clear HS; (obtain ⟨j, M0, Am0, cm0, rfl, rfl, HX, HS⟩ := hrel); (obtain ⟨k1, rfl⟩ : ∃ k1, gk = k1 + 1 := ⟨gk - 1, by have := HX.out; omega⟩); (by_cases cj : j < 40)
  ·(have cj0 : decide (j < 40) = true := decide_eq_true cj); (have cj1 : (j < 40) = True := eq_true cj); (have cj2 : decide ((j : Int) < 40) = true := decide_eq_true (by omega)); (have cj3 : ((j : Int) < 40) = True := eq_true (by omega)); (have HW := A0_ (wrap_succ j (by omega)))
   have HNX := A0_ (range_next (fun j => aloneP l0_0 l1 p (stepO o v (j + 1))) j HX.out.2.2.2)
   have HNO := A0_ (fun h => HLE.out.trans (range_no (fun j => aloneP l0_0 l1 p (stepO o v (j + 1))) 40 j cj h))
   have HLJ := A0_ (fun i hi => HLP.out i hi (j + 1) (by omega))
   (obtain ⟨x, hx⟩ : ∃ x, x = stepO o v (j + 1) := ⟨_, rfl⟩); (obtain ⟨K1, M, hM, hl1, hK1⟩ := move_at' M0 v (by rw [HX.out.2.2.1, List.length_map]; exact HPL.out))
   have hM2 : M = P.map fun c => addC c (stepO o v (j + 1)) := by rw [hM, HX.out.2.2.1, move_step]
   (have HML := A0_ (show M.length ≤ 1048576 by rw [hM2, List.length_map]; exact HPL.out)); (rw [← hM2] at HLJ); (have HM2 := A0_ hM2); (rw [← hx] at HLJ); (have hnx := HNX.out); (have hno := HNO.out); (try dsimp only at hnx hno); (rw [← hx] at hnx hno); (have HNX := A0_ hnx); (have HNO := A0_ hno)
   have hal : aloneP l0_0 l1 p x = (List.range l1.length).all fun k => decide ((k : Int) = (p : Int)) || !touchP l0_0 k p (subC x (oAt l1 k)) := rfl
   (have HAL := A0_ hal); (have HK1 := A0_ hK1); (have HCJ := A0_ cj); clear cj hx hM hl1 hK1 hM2 hnx hno hal
   go_wp2_with (first
    | (go_at_call 90; refine (spec_l27Vector.calls a3 v.f0 v.f1 v.f2 _ HVE.out).mono ?_; rintro e wc_ ⟨rfl, hb_⟩; replace HS := A0_ (Sp.far HS.out hb_); clear hb_)
    | (go_at_call 93; refine (spec_l09Move.calls K1 Am0 cm0 M0 v.f0 v.f1 v.f2 M _ (Sp.reads HS.out (i := 0) rfl).2.2 (Sp.reads HS.out (i := 0) rfl).2.1 HK1.out).mono ?_; rintro e wc_ ⟨v_, rfl, ho_, hb_⟩; replace HS := A0_ (Sp.out (Sp.made' HS.out hb_ ho_) 1); obtain ⟨Am, cm, rfl⟩ := Kd.R_slice ho_; clear hb_ ho_))
   go_loopg [11] (l1.length + 1) (fun kq v11 w' => ∃ (i : Nat), v11 = .int .i64 (i : Int) ∧ Aside0 (i ≤ l1.length ∧ kq + i = l1.length + 1 ∧ (List.range i).all (fun k => decide ((k : Int) = (p : Int)) || !touchP l0_0 k p (subC x (oAt l1 k))) = true) ∧ Aside0 (Sp w [Res.row k94 94 w.heap.size (.slice Am M.length cm) M, Res.blk ga #[.slice (some adp) l0_0.length c0_0] 26] w'))
   case atStart => exact ⟨0, rfl, ⟨by omega, by omega, rfl⟩, HS⟩
   case round =>
    clear HS; (obtain ⟨i, rfl, HY, HS⟩ := hrel); (obtain ⟨k2, rfl⟩ : ∃ k2, gk = k2 + 1 := ⟨gk - 1, by have := HY.out; omega⟩); (by_cases ci : i < l1.length)
    ·(have ci0 : decide (i < l1.length) = true := decide_eq_true ci); (have ci1 : (i < l1.length) = True := eq_true ci); (have r0 : (0 ≤ (i : Int)) = True := eq_true (by omega)); (have r1 : ((i : Int) < (l0_0.length : Int)) = True := eq_true (by have := HLN.out; omega)); (have r2 : (i < l0_0.length) = True := eq_true (by have := HLN.out; omega)); (have r3 : ((i : Int) < (l1.length : Int)) = True := eq_true (by omega)); (have HWI := A0_ (wrap_succ i (by have := H8.out; have := HLN.out; omega)))
     have HNJ := A0_ (range_next (fun k : Nat => decide ((k : Int) = (p : Int)) || !touchP l0_0 k p (subC x (oAt l1 k))) i HY.out.2.2)
     have HBJ := A0_ (fun h => HAL.out.trans (range_no (fun k : Nat => decide ((k : Int) = (p : Int)) || !touchP l0_0 k p (subC x (oAt l1 k))) l1.length i ci h))
     (have HCI := A0_ ci); (replace HS := A0_ (show Sp w ([Res.row k94 94 w.heap.size (.slice Am M.length cm) M, Res.blk ga #[.slice (some adp) l0_0.length c0_0] 26] ++ ([] : List Res)) wr.drew from Sp.drew HS.out)); (by_cases hip : (i : Int) = (p : Int))
     ·(have s0 : ((i : Int) != (p : Int)) = false := by rw [bne_eq_false_iff_eq]; exact hip); (have HN := A0_ (HNJ.out (by rw [decide_eq_true hip, Bool.true_or]))); clear ci hip HNJ HBJ; go_wp2
      refine start_ (n := 17) (S := fun w' => True) (ds := []) #[ff,ff,ff,ff,ff,ff,ff,ff,ff,ff,ff,ff,ff,ff,ff,ff,ff] (by kernel_rfl) rfl rfl (trivial) (fun hHeld => ?_)
      refine with_tabW slvF.tab9 slvF.bits9 (fun HT_ HW_ => ?_)
      (generalize wr.drew = wD at HS hHeld ⊢); (refine on_ 0 (some 36) ?_); (refine on_ 1 (some 37) ?_); (refine on_ 2 (some 38) ?_); (refine on_ 3 (some 39) ?_); (refine of_ 4 (some 40) ?_); (refine of_ 5 (some 41) ?_); (refine of_ 6 (some 42) ?_); (refine of_ 7 (some 43) ?_); (refine of_ 8 (some 44) ?_); (refine of_ 9 (some 45) ?_); (refine of_ 10 (some 46) ?_); (refine of_ 11 (some 47) ?_); (refine of_ 12 (some 48) ?_); (refine of_ 13 (some 49) ?_); (refine of_ 14 (some 50) ?_); (refine of_ 15 (some 51) ?_); (refine on_ 16 (some 52) ?_); (refine dn_ ?_); go_wp2; (go_roundg k2)
      case measure => omega
      case rel =>
       (rw [HWI.out]); (exact ⟨i + 1, rfl, ⟨by have := HCI.out; omega, by have := HY.out; omega, HN.out⟩, HS⟩)
     ·(have s0 : ((i : Int) != (p : Int)) = true := by rw [bne_iff_ne]; exact hip); (have hnj := HNJ.out); (have hbj := HBJ.out); (try dsimp only at hnj hbj); (rw [decide_eq_false hip, Bool.false_or] at hnj hbj); (have hil : i < l0_0.length := by have := HLN.out; omega); (obtain ⟨ad3, Aj, cj_, e, hy0, hy1, hy2⟩ := at_L3 HR0.out (i : Int) (by omega) (by omega)); (injection e with e); subst e; (have hpl := HSZ.out _ (pAt_mem l0_0 i hil)); (have hpr := HLJ.out i hil); (rw [show rd_L3 l0_0 (i : Int) = pAt l0_0 i from rfl] at hy0 hy1 hy2); (rw [Int.toNat_natCast] at hy0); (obtain ⟨ad4, e, hx0, hx1, hx2⟩ := at_T94 HR1.out (i : Int) (by omega) (by omega)); (injection e with e); subst e; (rw [show rd_T94 l1 (i : Int) = oAt l1 i from rfl] at hx0 hx1 hx2); (rw [Int.toNat_natCast] at hx0 hx1 hx2); (obtain ⟨pj, hpj⟩ : ∃ pj, pj = pAt l0_0 i := ⟨_, rfl⟩); (rw [← hpj] at hy0 hy1 hy2 hpl hpr); (obtain ⟨oj, hoj⟩ : ∃ oj, oj = oAt l1 i := ⟨_, rfl⟩); (rw [← hoj] at hx0 hx1 hx2 hpr hnj hbj); (obtain ⟨K2, m2, hm2, hl2, hK2⟩ := move_at' pj oj hpl); (obtain ⟨K3, hK3⟩ := (smeet_ev M m2 HML.out (by rw [hl2]; exact hpl)).rounds); (rw [← hm2] at hpr); (rw [hpr] at hK3); (obtain ⟨r3, hr3⟩ : ∃ r3, r3 = touchP l0_0 (i : Int) (p : Int) (subC x oj) := ⟨_, rfl⟩); (rw [← hr3] at hK3 hnj hbj); (have HNJ := A0_ hnj); (have HBJ := A0_ hbj); (have HK2 := A0_ hK2); (have HK3 := A0_ hK3); (have HJ0 := A0_ hy0); (have HJ1 := A0_ hy1); (have HJ2 := A0_ hy2); (have HX0 := A0_ hx0); (have HX1 := A0_ hx1); (have HX2 := A0_ hx2); clear ci hip hpj hoj hx0 hx1 hx2 hy0 hy1 hy2 hK2 hK3 hm2 hl2 hpl hpr hr3 hil hnj hbj; go_wp2
      refine start_ (n := 17) (S := fun w' => w'.cell? ⟨ga, 0, none⟩ = some (.slice (some adp) l0_0.length c0_0) ∧ w'.cell? (adp.add i) = some (.slice Aj pj.length cj_) ∧ w'.cell? (ado.add (i * 3)) = some (.int .i64 oj.f0) ∧ w'.cell? ⟨(ado.add (i * 3)).block, (ado.add (i * 3)).off + 1, none⟩ = some (.int .i64 oj.f1) ∧ w'.cell? ⟨(ado.add (i * 3)).block, (ado.add (i * 3)).off + 2, none⟩ = some (.int .i64 oj.f2)) (ds := []) #[ff,ff,ff,ff,ff,ff,ff,ff,ff,ff,ff,ff,ff,ff,ff,ff,ff] (by kernel_rfl) rfl rfl (⟨(cl_ HS 1 0 rfl).trans rfl, pw_cell_below HS.out.below HJ0.out, pw_cell_below HS.out.below HX0.out, pw_cell_below HS.out.below HX1.out, pw_cell_below HS.out.below HX2.out⟩) (fun hHeld => ?_)
      refine with_tabW slvF.tab9 slvF.bits9 (fun HT_ HW_ => ?_)
      (generalize wr.drew = wD at HS hHeld ⊢); (refine on_ 0 (some 36) ?_); (refine on_ 1 (some 37) ?_); (refine on_ 2 (some 38) ?_); (refine on_ 3 (some 39) ?_); (refine on_ 4 (some 40) ?_); (refine on_ 5 (some 41) ?_); (refine tk_ 6 (some 42) ?_); (refine on_ 7 (some 43) ?_); (refine on_ 8 (some 44) ?_); (refine tk_ 9 (some 45) ?_); (refine on_ 10 (some 46) ?_); (refine on_ 11 (some 47) ?_); (refine on_ 12 (some 48) ?_); (refine tk_ 13 (some 49) ?_)
      refine o1_ 14 (some 50) (fun K hK => ?_)
      (refine gs_ Try.func93 #[.slice Aj pj.length cj_, .agg #[.int .i64 oj.f0, .int .i64 oj.f1, .int .i64 oj.f2]] ?_); (refine (spec_l09Move.calls K2 Aj cj_ pj oj.f0 oj.f1 oj.f2 m2 _ (Kd.C_below HJ2.out HS.out.below) HJ1.out HK2.out).mono ?_); (rintro e wA11 ⟨vA11, rfl, ho, hb⟩); (refine ⟨_, rfl, ?_⟩); (replace HS := A0_ (Sp.made' HS.out hb ho)); clear hb ho; (obtain ⟨AA11, cA11, rfl⟩ := Sp.slice HS.out (i := 0) rfl)
      refine hK.out _ _ (⟨(cl_ HS 2 0 rfl).trans rfl, pw_cell_below HS.out.below HJ0.out, pw_cell_below HS.out.below HX0.out, pw_cell_below HS.out.below HX1.out, pw_cell_below HS.out.below HX2.out⟩) (fun hHeld => ?_)
      clear hK K; (refine nm_ (some 50) ?_)
      refine o1_ 15 (some 51) (fun K hK => ?_)
      (refine gs_ Try.func86 #[.slice Am M.length cm, .slice AA11 (m2).length cA11] ?_); (refine (spec_l27Meet.calls K3 Am cm M AA11 cA11 m2 r3 _ (Sp.reads HS.out (i := 1) rfl).2.2 (Sp.reads HS.out (i := 1) rfl).2.1 (Sp.reads HS.out (i := 0) rfl).2.2 (Sp.reads HS.out (i := 0) rfl).2.1 HK3.out).mono ?_); (rintro e wA12 ⟨rfl, hb⟩); (refine ⟨_, rfl, ?_⟩); (replace HS := A0_ (Sp.far HS.out hb)); clear hb
      refine hK.out _ _ (⟨(cl_ HS 2 0 rfl).trans rfl, pw_cell_below HS.out.below HJ0.out, pw_cell_below HS.out.below HX0.out, pw_cell_below HS.out.below HX1.out, pw_cell_below HS.out.below HX2.out⟩) (fun hHeld => ?_)
      clear hK K; (refine nm_ (some 51) ?_); (refine on_ 16 (some 52) ?_); (refine dn_ ?_); (replace HS := A0_ (Sp.arr (pre := [Res.row k94 94 w.heap.size (.slice AA11 (m2).length cA11) (m2), Res.row k94 94 w.heap.size (.slice Am M.length cm) M, Res.blk ga #[.slice (some adp) l0_0.length c0_0] 26]) (pre' := [Res.row k94 94 w.heap.size (.slice Am M.length cm) M, Res.blk ga #[.slice (some adp) l0_0.length c0_0] 26, Res.row k94 94 w.heap.size (.slice AA11 (m2).length cA11) (m2)]) (rest := ([] : List Res)) [1, 2, 0] HS.out rfl rfl))
      cases r3 with
      | true =>
       (have HF := A0_ (HNO.out (HBJ.out rfl))); clear HNJ HBJ; go_wp2; go_ret; (exact ⟨by rw [HF.out]; rfl, HS.out.below⟩)
      | false =>
       (have HN := A0_ (HNJ.out rfl)); clear HNJ HBJ; go_wp2; (replace HS := A0_ (Sp.out HS.out 2)); (go_roundg k2)
       case measure => omega
       case rel =>
        (rw [HWI.out]); (exact ⟨i + 1, rfl, ⟨by have := HCI.out; omega, by have := HY.out; omega, HN.out⟩, HS⟩)
    ·(have ci0 : decide (i < l1.length) = false := decide_eq_false ci); (have ci1 : (i < l1.length) = False := eq_false ci); (have ci3 : ((i : Int) < (l1.length : Int)) = False := eq_false (by omega)); (have hi : i = l1.length := by have := HY.out; omega); (have HN := A0_ (HNX.out (HAL.out.trans (hi ▸ HY.out.2.2)))); clear ci hi; go_wp2; (go_roundg k1)
     case measure => omega
     case rel =>
      (rw [HW.out]); (exact ⟨j + 1, M, Am, cm, rfl, rfl, ⟨by have := HCJ.out; omega, by have := HX.out; omega, HM2.out, HN.out⟩, HS⟩)
  ·(have cj0 : decide (j < 40) = false := decide_eq_false cj); (have cj1 : (j < 40) = False := eq_false cj); (have cj2 : decide ((j : Int) < 40) = false := decide_eq_false (by omega)); (have cj3 : ((j : Int) < 40) = False := eq_false (by omega)); (have hj : j = 40 := by have := HX.out; omega); (have HF := A0_ (HLE.out.trans (hj ▸ HX.out.2.2.2))); clear cj hj; go_wp2; go_ret; (exact ⟨by rw [HF.out]; rfl, HS.out.below⟩)
section
attribute [local go_sem] max2_int min2_int max_two min_two max_three min_three max_four min_four
def spec_l27Free.l0 : Nat → List (S94) → List Int → Int → List (List (S94)) → Option (List Int)
  | 0, _, _, _, _ => none
  | k + 1, x1, x5, x6, x428000 => if x6 < (wrap64 (6 * (x428000.length : Int))) then ((spec_l27Leaves.f k x428000 x1 (wrap64 (Int.tdiv x6 6)) (Int.tmod x6 6)).bind fun t431 => (if t431 = true then (if x5.length < 17592186044416 then (spec_l27Free.l0 k x1 (x5 ++ [x6]) (wrap64 (x6 + 1)) x428000) else (none)) else (spec_l27Free.l0 k x1 x5 (wrap64 (x6 + 1)) x428000))) else (some x5)
def spec_l27Free.f (k : Nat) (l0_0 : List (List (S94))) (l1 : List (S94)) : Option (List Int) := spec_l27Free.l0 k l1 (([] : List Int)) 0 l0_0
set_option maxHeartbeats 8000000 in
set_option maxRecDepth 100000 in
theorem spec_l27Free.calls (k : Nat) (A0_0 : Option Addr) (c0_0 : Nat) (l0_0 : List (List (S94))) (A1 : Option Addr) (c1 : Nat) (l1 : List (S94)) (r : List Int) (w : World) (hr0_0 : Kd.C (Kd.slice 94 k94) w A0_0 l0_0.length l0_0) (hc0_0 : l0_0.length ≤ c0_0) (hr1 : Kd.C k94 w A1 l1.length l1) (hc1 : l1.length ≤ c1) (h : spec_l27Free.f k l0_0 l1 = some r) :
    Calls Try.prog 49 #[.agg #[.slice A0_0 l0_0.length c0_0], .slice A1 l1.length c1] w fun e w' => ∃ v0_ : Value, e = .returned (v0_) ∧ Kd.R (Kd.int .i64) 2 w' w.heap.size (fun _ => True) v0_ r ∧ Below w.heap.size w w' := by
 (have hu26 := Try.underlying26); (have HR0_0 := A0_ hr0_0); (have HC0_0 := A0_ hc0_0); clear hr0_0 hc0_0; (have HR1 := A0_ hr1); (have HC1 := A0_ hc1); clear hr1 hc1; (have HB := A0_ (Below.refl w.heap.size w)); (have H : (spec_l27Free.l0 k l1 (([] : List Int)) 0 l0_0) = some r := h); clear h; (obtain ⟨y428, hy428⟩ : ∃ y_ : List Int, y_ = (([] : List Int)) := ⟨_, rfl⟩); (replace H : (spec_l27Free.l0 k l1 y428 0 l0_0) = some r := by first | (rw [hy428]; with_reducible exact H) | (have H2_ := (Option.bind_some _ _).symm.trans H; rw [hy428]; with_reducible exact H2_) | (have H2_ := (Option.bind_some _ _).symm.trans H; with_reducible exact H2_) | with_reducible exact H | (rw [hy428]; exact H) | exact H); (have Ny428 := A0_ hy428); clear hy428; (have H' := A0_ H); clear H; (go_enter Try.func49, Try.ntmps49)
 go_wp2_with (first | ((with_reducible refine gate_dst (N := 2) rfl ?_); refine be_ (N := 2) (cs := #[.slice A0_0 l0_0.length c0_0]) (t := 26) ?_; intro gb427 hg w3 hbox hb; have n0_ := A0_ (below_step bw_ hb); have n1_ := A0_ (hbox); have n2_ := A0_ ((by rw [hg]; exact (below_size bw_) : w.heap.size ≤ gb427)); have n3_ := A0_ ((by rw [hg]; exact (below_size bw_) : w.heap.size ≤ gb427)); clear HB; have HB := n0_; have BK427 := n1_; have GW427 := n2_; have GE427 := n3_; clear n0_ n1_ n2_ n3_; clear hb hbox hg) | ((with_reducible refine gate_dst (N := 7) rfl ?_); refine Kd.R_lit (Kd.int .i64) _ 2 ?hg (N := 7) ?hd (xs := ([] : List Int)) (inner := []) (ok := fun _ => True) (okp := fun _ => True) ?hr ?hp (fun _ hk => hk) trivial (Below.refl _ _) (Nat.le_refl _) (by simp) ?_; (case hd => rfl); (case hg => rfl); (case hr => first | (go_simp; done) | (go_simp; rfl)); (case hp => exact (Reps.none _ _)); intro v429 w4 ho5 hb hg_ hnew_; clear hg_ hnew_; (first | rw [← Ny428.out] at ho5 | (simp only [Int.reduceToNat] at ho5; rw [← Ny428.out] at ho5)); have n0_ := A0_ (Kd.R_lower ho5 (below_size bx_)); have n1_ := A0_ (blk_below (g := gb427) (o := .cells #[.slice A0_0 l0_0.length c0_0] 26 (0, 0)) (bk_ BK427) hb); have n2_ := A0_ (below_step bx_ hb); clear BK427; clear HB; have HO430 := n0_; have BK427 := n1_; have HB := n2_; clear n0_ n1_ n2_; clear hb ho5))
 go_loopg [5, 6] k (fun kq v5 v6 w' => ∃ (x5_1 : List Int) (x6_1 : Int), v6 = .int .i64 x6_1 ∧ Aside0 (spec_l27Free.l0 kq l1 x5_1 x6_1 l0_0 = some r) ∧ Aside0 (kq ≤ k) ∧ Aside0 (Kd.R (Kd.int .i64) 2 w' w.heap.size (fun _ => True) v5 x5_1) ∧ Aside0 (w'.heap[gb427]? = some (.cells #[(.slice A0_0 l0_0.length c0_0)] 26 (0, 0))) ∧ Aside0 (Below w.heap.size w w'))
 case atStart => exact ⟨(y428), (0), (by first | rfl | (simp; done) | (simp [*]; done)), H', ⟨Nat.le_refl _⟩, ⟨by (with_reducible repeat (first | apply Ra_ | apply Rn_ | apply Rd_)); exact HO430.out⟩, ⟨by exact bk_ BK427⟩, ⟨by repeat (first | (with_reducible first | exact HB.out | apply ba_ | apply bn_ | apply bd_ | refine below_set ?_ GE427.out) | exact HB.out)⟩⟩
 case round =>
  clear H'; (try clear c1); (try clear p2); (try clear c4); (obtain ⟨x5_1, x6_1, rfl, HA, HK1, HO_5, BK427, HB⟩ := hrel)
  cases gk with
  | zero => exact absurd HA.out (by simp [spec_l27Free.l0])
  | succ k1 =>
   (have H := HA.out); clear HA; (simp only [spec_l27Free.l0] at H); (by_cases c6 : x6_1 < (wrap64 (6 * (l0_0.length : Int))))
   ·(rw [if_pos c6] at H); (have c6b0 : decide (x6_1 < (wrap64 (6 * (l0_0.length : Int)))) = true := decide_eq_true c6); clear c6; (replace H := Option.bind_eq_some_iff.mp H); (obtain ⟨t431, A70, H⟩ := H); (try dsimp only at H); (have A7 := A0_ A70); clear A70; (have H0_ := A0_ H); clear H; (have hcz8_0 : wr.cell? ⟨gb427, 0, none⟩ = some (.slice A0_0 l0_0.length c0_0) := (blk_cell BK427.out 0).trans rfl); (have hfz8_0 := blk_frozen BK427.out 0); (go_wp2_with (first | ((with_reducible refine gate_callee (f := 65) rfl ?_); refine gl_ (some 22) Try.func65 #[.agg #[.slice A0_0 l0_0.length c0_0], .slice A1 l1.length c1, .int .i64 (wrap64 (Int.tdiv x6_1 6)), .int .i64 (Int.tmod x6_1 6)] ?_; (with_reducible refine (spec_l27Leaves.calls k1 _ _ l0_0 _ _ l1 (wrap64 (Int.tdiv x6_1 6)) (Int.tmod x6_1 6) t431 _ ?side1 ?side2 ?side3 ?side4 A7.out).mono ?_); (case side1 => exact kc_ (Kd.C_below HR0_0.out HB.out)); (case side2 => exact HC0_0.out); (case side3 => exact kc_ (Kd.C_below HR1.out HB.out)); (case side4 => exact HC1.out); rintro e w9 ⟨rfl, hb⟩; refine ⟨_, rfl, ?_⟩; have n0_ := A0_ (Kd.R_below (by (with_reducible repeat (first | apply Ra_ | apply Rn_ | apply Rd_)); exact HO_5.out) hb); have n1_ := A0_ (blk_below (g := gb427) (o := .cells #[.slice A0_0 l0_0.length c0_0] 26 (0, 0)) (bk_ BK427) hb); have n2_ := A0_ (below_step bx_ hb); clear HO_5; clear BK427; clear HB; have HO_5 := n0_; have BK427 := n1_; have HB := n2_; clear n0_ n1_ n2_; (try clear hb); (try clear hb2); (try clear hk); (try clear hi); refine Stop0.out ?_))); (refine Stop0.mk ?_); (have H := H0_.out); clear H0_; (by_cases c10 : t431 = true)
    ·subst c10; (have H1 := H); (rw [if_pos rfl] at H1); clear H; (have H := H1); clear H1; (by_cases c11 : x5_1.length < 17592186044416)
     ·(rw [if_pos c11] at H); (have LMc11 := A0_ c11); clear c11; (obtain ⟨y432, hy432⟩ : ∃ y_ : List Int, y_ = (x5_1 ++ [x6_1]) := ⟨_, rfl⟩); (replace H : (spec_l27Free.l0 k1 l1 y432 (wrap64 (x6_1 + 1)) l0_0) = some r := by first | (rw [hy432]; with_reducible exact H) | (have H2_ := (Option.bind_some _ _).symm.trans H; rw [hy432]; with_reducible exact H2_) | (have H2_ := (Option.bind_some _ _).symm.trans H; with_reducible exact H2_) | with_reducible exact H | (rw [hy432]; exact H) | exact H); (have Ny432 := A0_ hy432); clear hy432; (have H' := A0_ H); clear H
      go_wp2_with (first | ((with_reducible refine gate_builtin (b := .append) (xs := #[.tmp 23, .tmp 25]) rfl ?_); at_builtin; refine Kd.R_append (Kd.int .i64) (w0 := w) w.heap.size rfl (.tmp 23) (.tmp 25) 28 2 (.int .i64 0) 8 rfl Try.underlying28 info2 rfl (by decide) (by omega) u5 x5_1 x6_1 [.int .i64 x6_1] (fun _ => True) (fun _ => False) rfl rfl ?aP (fun _ hk => hk.elim) ?aF ?aO ?aB ?aS ?aL ?_; (case aP => exact rfl); (case aB => exact bx_); (case aF => exact (fun _ _ => trivial)); (case aO => exact (by (with_reducible repeat (first | apply Ra_ | apply Rn_ | apply Rd_)); exact HO_5.out)); (case aS => exact (below_size bx_)); (case aL => have := LMc11.out; omega); intro v433 w12 ho hb hg hat; rw [← Ny432.out] at ho; have n0_ := A0_ (blk_grown (g := gb427) (o := .cells #[.slice A0_0 l0_0.length c0_0] 26 (0, 0)) (bk_ BK427) hg (Kd.R_ne HO_5.out BK427.out (by decide))); have n1_ := A0_ (hb); have n2_ := A0_ (ho); clear BK427; clear HB; clear HO_5; have BK427 := n0_; have HB := n1_; have HO434 := n2_; clear n0_ n1_ n2_; clear ho hb hg hat))
      (go_roundg k1)
      case measure => have := HK1.out; omega
      case rel => exact ⟨(y432), (wrap64 (x6_1 + 1)), (by first | rfl | (simp; done) | (simp [*]; done)), H', ⟨by have := HK1.out; omega⟩, ⟨by (with_reducible repeat (first | apply Ra_ | apply Rn_ | apply Rd_)); exact HO434.out⟩, ⟨by exact bk_ BK427⟩, ⟨by repeat (first | (with_reducible first | exact HB.out | apply ba_ | apply bn_ | apply bd_ | refine below_set ?_ GE427.out) | exact HB.out)⟩⟩
     ·(rw [if_neg c11] at H); (exact absurd H (by simp))
    ·(replace c10 := Bool.eq_false_iff.mpr c10); subst c10; (have H1 : (spec_l27Free.l0 k1 l1 x5_1 (wrap64 (x6_1 + 1)) l0_0) = some r := by rw [if_neg (show ¬ (false = true) by decide)] at H; exact H); clear H; (have H := H1); clear H1; (have H' := A0_ H); clear H; go_wp2; (go_roundg k1)
     case measure => have := HK1.out; omega
     case rel => exact ⟨(x5_1), (wrap64 (x6_1 + 1)), (by first | rfl | (simp; done) | (simp [*]; done)), H', ⟨by have := HK1.out; omega⟩, ⟨by (with_reducible repeat (first | apply Ra_ | apply Rn_ | apply Rd_)); exact HO_5.out⟩, ⟨by exact bk_ BK427⟩, ⟨by repeat (first | (with_reducible first | exact HB.out | apply ba_ | apply bn_ | apply bd_ | refine below_set ?_ GE427.out) | exact HB.out)⟩⟩
   ·(rw [if_neg c6] at H); (have c6b0 : decide (x6_1 < (wrap64 (6 * (l0_0.length : Int)))) = false := decide_eq_false c6); clear c6; (obtain rfl := Option.some.inj H); (have hcz13_0 : wr.cell? ⟨gb427, 0, none⟩ = some (.slice A0_0 l0_0.length c0_0) := (blk_cell BK427.out 0).trans rfl); (have hfz13_0 := blk_frozen BK427.out 0); go_wp2; go_ret; (exact ⟨_, by first | rfl | (simp [errW_none, errW_some] <;> rfl) | (simp [*, errW_none, errW_some] <;> rfl), by (with_reducible repeat (first | apply Ra_ | apply Rn_ | apply Rd_)); exact HO_5.out, bx_⟩)
end
def seaF.T5 : Bool × List (List Nat × List Nat) := (true, [([], []), ([0], [0]), ([1], [1]), ([1], [1]), ([3, 1], [1, 3]), ([4, 1], [1, 4]), ([5, 1], [1, 5]), ([1], [1]), ([6, 7, 1], [1, 6, 7]), ([8, 1], [1, 8]), ([2, 9, 1, 1], [1, 2, 9]), ([10, 1], [1, 10]), ([11, 1], [1, 11]), ([1, 12], [1, 12])])
def seaF.B5 : List Nat := [0, 1, 3, 3, 11, 27, 59, 3, 251, 507, 1023, 2047, 4095, 8191]
theorem seaF.tab5 : rtab .any (opsOf Try.f56 5) = seaF.T5 := by kernel_rfl
theorem seaF.bits5 : waitsOk seaF.T5.2 seaF.B5 = true := by kernel_rfl
end Go.Proofs.Ytcobnlilmihjfaa.A

namespace Go.Proofs.Ytcobnlilmihjfaa.A
open Go.RowKit Go.Proofs.YtcobnlilmihjfaaW.PrintWords Go.Proofs.YtcobnlilmihjfaaW.PrintLast Go.Proofs.YtcobnlilmihjfaaW.PrintMore
set_option linter.unusedVariables false
set_option linter.unusedSimpArgs false
theorem u64_nn (k : Nat) (h : k ≤ 8) : 0 ≤ IntKind.u64.wrap (k : Int) := by
 obtain h | h | h | h | h | h | h | h | h : k = 0 ∨ k = 1 ∨ k = 2 ∨ k = 3 ∨ k = 4 ∨ k = 5 ∨ k = 6 ∨ k = 7 ∨ k = 8 := by omega
 all_goals subst h; decide
theorem movedP_at (o : List Cb) (m : Int) (j : Nat) (hj : j < o.length) : (movedP o m)[j]'(by rw [movedP_len]; exact hj) = if (m.toNat / 6).testBit j = true then addC (oAt o j) (vecP (m % 6)) else oAt o j := by
 simp [movedP]
theorem after_ev (o : List Cb) (m : Int) (hl : o.length ≤ 8) (h6 : 6 ≤ m) (hm : m ≤ 9223372036854775807) : Ev (fun k => spec_l27After.f k o m) (movedP o m) := by
 obtain ⟨r, hr, hk⟩ : ∃ r, r = movedP o m ∧ Ev (fun k => spec_l27After.f k o m) r := by
  unfold spec_l27After.f
  refine ev_inv0 o.length (fun (s : List Cb) j => s = (movedP o m).take j) (fun r => r = movedP o m) (fun s i k => spec_l27After.l0 k o m s i) (fun s hi => ?_) (fun s j hj hi => ?_) [] rfl
  ·refine ⟨s, ?_, Ev.step (f := fun _ => some s) (fun k => by simp only [spec_l27After.l0]; rw [if_neg (by omega)]) (Ev.now _)⟩
   rw [hi, List.take_of_length_le (by rw [movedP_len]; exact Nat.le_refl _)]
  ·have hg : rd_T94 o (j : Int) = oAt o j := rfl
   have hw := wrap_succ j (show j < 9223372036854775807 by omega)
   have hsl : s.length < 5864062014805 := by
    rw [hi, List.length_take]
    omega
   have hnn := u64_nn j (by omega)
   have hq : m.tmod 6 = m % 6 := Int.tmod_eq_emod_of_nonneg (by omega)
   have hv := vec_eq (m % 6) (by omega)
   have hat := movedP_at o m j hj
   have hnext : (movedP o m).take (j + 1) = s ++ [if (m.toNat / 6).testBit j = true then addC (oAt o j) (vecP (m % 6)) else oAt o j] := by
    rw [List.take_succ_eq_append_getElem (by rw [movedP_len]; exact hj), hat, hi]
   refine .inr ⟨_, hnext.symm, fun r h2 => Ev.succ ?_⟩
   cases hb : (m.toNat / 6).testBit j with
   | false =>
    have hbit : bits .and .i64 (shr .i64 (wrap64 (Int.tdiv m 6)) (IntKind.u64.wrap (j : Int))) 1 = 0 := bit_of m j h6 hm (by omega) false hb
    rw [hb, if_neg (by simp)] at h2
    simp only [spec_l27After.l0, hg, hbit, hsl, if_true, if_false, show (j : Int) < (o.length : Int) from by omega, show (0 : Int) ≤ (j : Int) from by omega, hw, hnn, show ¬ ((0 : Int) = 1) from by omega]
    exact h2
   | true =>
    have hbit : bits .and .i64 (shr .i64 (wrap64 (Int.tdiv m 6)) (IntKind.u64.wrap (j : Int))) 1 = 1 := bit_of m j h6 hm (by omega) true hb
    rw [hb, if_pos rfl] at h2
    simp only [spec_l27After.l0, hg, hbit, hsl, hq, hv, spec_l09Add.f, Option.bind_some, if_true, if_false, show (j : Int) < (o.length : Int) from by omega, show (0 : Int) ≤ (j : Int) from by omega, hw, hnn]
    exact h2
 rw [← hr]
 exact hk
abbrev ndAt (S : List Nd) (j : Nat) : Nd := S.getD j default
abbrev pwAt (T : List (List Cb × List Int)) (j : Nat) : List Cb × List Int := T.getD j default
def wayF (S : List Nd) : Nat → Nat → List Int
 | 0, _ => []
 | f + 1, j => if (ndAt S j).2.1 < 0 then [] else wayF S f (ndAt S j).2.1.toNat ++ [(ndAt S j).2.2]
def wayN (S : List Nd) (j : Nat) : List Int := wayF S (j + 1) j
def WfN (S : List Nd) : Prop := ∀ j : Nat, j < S.length → (ndAt S j).2.1 < (j : Int)
theorem wayF_any {S : List Nd} (h : WfN S) : ∀ (f g j : Nat), j < S.length → j < f → j < g → wayF S f j = wayF S g j
 | 0, _, _, _, hf, _ => by omega
 | _ + 1, 0, _, _, _, hg => by omega
 | f + 1, g + 1, j, hj, hf, hg => by
  unfold wayF
  have hs := h j hj
  by_cases c : (ndAt S j).2.1 < 0
  ·rw [if_pos c, if_pos c]
  ·rw [if_neg c, if_neg c, wayF_any h f g (ndAt S j).2.1.toNat (by omega) (by omega) (by omega)]
theorem wayN_step {S : List Nd} (h : WfN S) {j : Nat} (hj : j < S.length) (h0 : ¬ (ndAt S j).2.1 < 0) : wayN S j = wayN S (ndAt S j).2.1.toNat ++ [(ndAt S j).2.2] := by
 have hs := h j hj
 conv => lhs; unfold wayN wayF
 rw [if_neg h0]
 congr 1
 exact wayF_any h _ _ _ (by omega) (by omega) (by omega)
theorem ndAt_app {S : List Nd} {x : Nd} {j : Nat} (hj : j < S.length) : ndAt (S ++ [x]) j = ndAt S j := by
 simp only [ndAt, List.getD_eq_getElem?_getD, List.getElem?_append_left hj]
theorem ndAt_new {S : List Nd} {x : Nd} : ndAt (S ++ [x]) S.length = x := by simp [ndAt, List.getD_eq_getElem?_getD]
theorem pwAt_app {T : List (List Cb × List Int)} {x : List Cb × List Int} {j : Nat} (hj : j < T.length) : pwAt (T ++ [x]) j = pwAt T j := by
 simp only [pwAt, List.getD_eq_getElem?_getD, List.getElem?_append_left hj]
theorem pwAt_new {T : List (List Cb × List Int)} {x : List Cb × List Int} : pwAt (T ++ [x]) T.length = x := by simp [pwAt, List.getD_eq_getElem?_getD]
theorem wayF_app {S : List Nd} (h : WfN S) (x : Nd) : ∀ (f j : Nat), j < S.length → wayF (S ++ [x]) f j = wayF S f j
 | 0, _, _ => rfl
 | f + 1, j, hj => by
  unfold wayF
  rw [ndAt_app hj]
  have hs := h j hj
  by_cases c : (ndAt S j).2.1 < 0
  ·rw [if_pos c, if_pos c]
  ·rw [if_neg c, if_neg c, wayF_app h x f _ (by omega)]
structure RelW (S : List Nd) (T : List (List Cb × List Int)) : Prop where
 wf : WfN S
 pos : S.map Prod.fst = T.map Prod.fst
 way : ∀ j : Nat, j < S.length → wayN S j = (pwAt T j).2
theorem RelW.len {S : List Nd} {T : List (List Cb × List Int)} (h : RelW S T) : S.length = T.length := by
 have := congrArg List.length h.pos
 simpa using this
theorem RelW.at {S : List Nd} {T : List (List Cb × List Int)} (h : RelW S T) (j : Nat) : (ndAt S j).1 = (pwAt T j).1 := by
 have h1 : (S.map Prod.fst).getD j (default : Nd).1 = (T.map Prod.fst).getD j (default : List Cb × List Int).1 := by rw [h.pos]; rfl
 simp only [List.getD_eq_getElem?_getD, List.getElem?_map] at h1
 simp only [ndAt, pwAt, List.getD_eq_getElem?_getD]
 cases hs : S[j]? <;> cases ht : T[j]? <;> rw [hs, ht] at h1 <;> exact h1
theorem RelW.add {S : List Nd} {T : List (List Cb × List Int)} (h : RelW S T) (k : Nat) (hk : k < S.length) (nx : List Cb) (m : Int) : RelW (S ++ [(nx, (k : Int), m)]) (T ++ [(nx, (pwAt T k).2 ++ [m])]) := by
 have hwf : WfN (S ++ [(nx, (k : Int), m)]) := fun j hj => by
  rw [List.length_append, List.length_singleton] at hj
  by_cases c : j < S.length
  ·rw [ndAt_app c]; exact h.wf j c
  ·have : j = S.length := by omega
   subst this
   rw [ndAt_new]
   show (k : Int) < _
   omega
 refine ⟨hwf, by rw [List.map_append, List.map_append, h.pos]; rfl, fun j hj => ?_⟩
 rw [List.length_append, List.length_singleton] at hj
 by_cases c : j < S.length
 ·rw [pwAt_app (by rw [← h.len]; exact c), ← h.way j c]
  exact wayF_app h.wf _ _ j c
 ·have : j = S.length := by omega
  subst this
  have hn : ndAt (S ++ [(nx, (k : Int), m)]) S.length = (nx, (k : Int), m) := ndAt_new
  rw [wayN_step hwf (by rw [List.length_append, List.length_singleton]; omega) (by rw [hn]; show ¬ (k : Int) < 0; omega), hn]
  dsimp only
  rw [Int.toNat_natCast, show wayN (S ++ [(nx, (k : Int), m)]) k = wayN S k from wayF_app h.wf _ _ k hk, h.way k hk, h.len, pwAt_new]
theorem clear_ev (parts : List (List Cb)) (offs : List Cb) (hl : offs.length = parts.length) (h1 : 1 ≤ parts.length) (h8 : parts.length ≤ 8) (hsz : ∀ p ∈ parts, p.length ≤ 1048576) (hp : ∀ p ∈ parts, ∀ c ∈ p, inCb c 0 7 = true) :
  Ev (fun k => spec_l27Clear.f k parts offs) (areOffP parts offs) := Ev.val fun k => by unfold spec_l27Clear.f; rw [if_pos ⟨⟨h1, h8⟩, hsz, hp⟩]
theorem shl_eq (n : Nat) (h : n ≤ 8) : shl .i64 6 (IntKind.u64.wrap (n : Int)) = ((6 * 2 ^ n : Nat) : Int) := (i64_w _).trans (pow6_len n h)
theorem odd_eq (m : Nat) (h6 : 6 ≤ m) (hm : m ≤ 1000000) : ((wrap64 (Int.tdiv (m : Int) 6)).tmod 2 == 1) = decide (m / 6 % 2 = 1) := by
 rw [set_of (m : Int) (by omega) (by omega), Int.toNat_natCast, show (((m / 6 : Nat) : Int)).tmod 2 = ((m / 6 % 2 : Nat) : Int) from rfl]
 rw [Bool.eq_iff_iff, beq_iff_eq, decide_eq_true_eq]
 omega
theorem poss_ev (parts : List (List Cb)) (o : List Cb) (hl : o.length = parts.length) (h1 : 1 ≤ parts.length) (h8 : parts.length ≤ 8) (hsz : ∀ p ∈ parts, p.length ≤ 1048576) (hp : ∀ p ∈ parts, ∀ c ∈ p, inCb c 0 7 = true) (m : Nat) (h6 : 6 ≤ m) (hT : m < 6 * 2 ^ parts.length) :
  Ev (fun k => spec_l27Possible.f k parts o (m : Int)) (isMv parts.length (m : Int) && possP parts o (m : Int)) := by
 have hpw := pow_le8 parts.length h8
 have hsh := shl_eq parts.length h8
 have hmv : isMv parts.length (m : Int) = decide (m / 6 % 2 = 0) := by
  unfold isMv
  rw [pow_int]
  generalize 2 ^ parts.length = N2 at hT hpw
  rw [decide_eq_true (show (6 : Int) ≤ (m : Int) by omega), decide_eq_true (show (m : Int) < 6 * (N2 : Int) by omega), Bool.true_and, Bool.true_and, decide_eq_decide]
  omega
 have hf : ∀ k, spec_l27Possible.f k parts o (m : Int) = spec_l27Possible.j0 k o (m : Int) (decide (m / 6 % 2 = 1)) parts := fun k => by
  unfold spec_l27Possible.f
  rw [if_pos (u64_nn _ h8), hsh, in_eq, Option.bind_some]
  generalize 2 ^ parts.length = N2 at hT hpw
  rw [wrap_id (by omega) (by omega), show inR (m : Int) 6 (((6 * N2 : Nat) : Int) - 1) = true by unfold inR; rw [Bool.and_eq_true, decide_eq_true_eq, decide_eq_true_eq]; omega, if_pos rfl, odd_eq m h6 (by omega)]
 refine Ev.congr hf ?_
 rw [hmv]
 by_cases c : m / 6 % 2 = 1
 ·rw [decide_eq_true c, decide_eq_false (show ¬ m / 6 % 2 = 0 by omega), Bool.false_and]
  exact Ev.step (f := fun _ => some false) (fun k => by simp only [spec_l27Possible.j0, if_true]) (Ev.now _)
 ·rw [decide_eq_false c, decide_eq_true (show m / 6 % 2 = 0 by omega), Bool.true_and]
  refine Ev.step (f := fun k => (spec_l27After.f k o (m : Int)).bind fun t412 => ((spec_l27Clear.f k parts t412).bind fun t415 => (some t415))) (fun k => by simp only [spec_l27Possible.j0, Bool.false_eq_true, if_false]) ?_
  refine Ev.bind (after_ev o (m : Int) (by omega) (by omega) (by generalize 2 ^ parts.length = N2 at hT hpw; omega)) ?_
  exact Ev.bind (clear_ev parts (movedP o (m : Int)) (by rw [movedP_len]; exact hl) h1 h8 hsz hp) (Ev.val fun k => rfl)
theorem movesK_low (parts : List (List Cb)) (o : List Cb) (m : Nat) (h : m ≤ 12) : movesK parts o m = [] := by
 unfold movesK
 rw [List.map_eq_nil_iff, List.filter_eq_nil_iff]
 intro a ha
 have := List.mem_range.1 ha
 rw [decide_eq_false (by omega), Bool.false_and]
 simp
theorem movesK_step (parts : List (List Cb)) (o : List Cb) (m : Nat) (h : 6 ≤ m) : movesK parts o (m + 1) = movesK parts o m ++ (if (isMv parts.length (m : Int) && possP parts o (m : Int)) = true then [(m : Int)] else []) := by
 by_cases c : 12 ≤ m
 ·exact movesK_succ parts o m c
 ·rw [movesK_low parts o (m + 1) (by omega), movesK_low parts o m (by omega)]
  have : isMv parts.length (m : Int) = false := by
   unfold isMv
   rw [show decide ((m : Int) / 6 % 2 = 0) = false from decide_eq_false (by omega), Bool.and_false, Bool.and_false]
  rw [this, Bool.false_and, if_neg (by simp)]
  rfl
theorem smoves_ev (parts : List (List Cb)) (o : List Cb) (hl : o.length = parts.length) (h1 : 1 ≤ parts.length) (h8 : parts.length ≤ 8) (hsz : ∀ p ∈ parts, p.length ≤ 1048576) (hp : ∀ p ∈ parts, ∀ c ∈ p, inCb c 0 7 = true) :
  Ev (fun k => spec_l27Moves.f k parts o) (movesP parts o) := by
 have hpw := pow_le8 parts.length h8
 have hp1 : 1 ≤ 2 ^ parts.length := Nat.pos_of_ne_zero (by simp)
 have hsh := shl_eq parts.length h8
 have hnn := u64_nn parts.length h8
 obtain ⟨T, hTd⟩ : ∃ T, T = 6 * 2 ^ parts.length := ⟨_, rfl⟩
 have hT1 : 6 ≤ T ∧ T ≤ 1536 := by
  rw [hTd]
  generalize 2 ^ parts.length = N2 at hpw hp1
  omega
 rw [← hTd] at hsh
 obtain ⟨r, hr, hk⟩ : ∃ r, r = movesP parts o ∧ Ev (fun k => spec_l27Moves.l0 k o [] ((6 : Nat) : Int) parts) r := by
  refine ev_inv T (fun (s : List Int) j => 6 ≤ j ∧ s = movesK parts o j) (fun r => r = movesP parts o) (fun s i k => spec_l27Moves.l0 k o s i parts) (fun s hI => ?_) (fun s j hj hI => ?_) (T - 6) 6 [] (by omega) ⟨Nat.le_refl _, (movesK_low parts o 6 (by omega)).symm⟩
  ·refine ⟨s, ?_, Ev.step (f := fun _ => some s) (fun k => by simp only [spec_l27Moves.l0, hnn, hsh, if_true]; rw [if_neg (by omega)]) (Ev.now _)⟩
   rw [hI.2, hTd]
   rfl
  ·have c6 := hI.1
   have hs := hI.2
   have hw := wrap_succ j (show j < 9223372036854775807 by omega)
   have hsl : s.length < 17592186044416 := by
    rw [hs]
    have := movesK_len parts o j
    omega
   have hpe := poss_ev parts o hl h1 h8 hsz hp j c6 (by rw [← hTd]; exact hj)
   have hst := movesK_step parts o j c6
   refine .inr ⟨movesK parts o (j + 1), ⟨by omega, rfl⟩, fun r h2 => ?_⟩
   refine Ev.step (f := fun k => (spec_l27Possible.f k parts o (j : Int)).bind fun t420 => if t420 = true then spec_l27Moves.l0 k o (s ++ [(j : Int)]) ((j + 1 : Nat) : Int) parts else spec_l27Moves.l0 k o s ((j + 1 : Nat) : Int) parts) (fun k => ?_) (Ev.bind hpe ?_)
   ·simp only [spec_l27Moves.l0, hnn, hsh, hsl, hw, if_true, show (j : Int) < (T : Int) from by omega]
   ·cases hb : isMv parts.length (j : Int) && possP parts o (j : Int) with
    | true =>
     rw [hst, hb, if_pos rfl, ← hs] at h2
     exact h2
    | false =>
     rw [hst, hb, if_neg (by simp), List.append_nil, ← hs] at h2
     exact h2
 rw [← hr]
 exact hk
def spec_l09Solid.f (k : Nat) (l : List Cb) : Option Bool := if l.length ≤ 1048576 then some (solP l) else none
def ssoF.T4 : Bool × List (List Nat × List Nat) := (true, [([], []), ([], []), ([0, 1], [0, 1]), ([2], [2]), ([3], [3]), ([4], [4]), ([5, 4], [5]), ([6], [6]), ([7, 6], [6, 7]), ([8, 6, 6], [6, 8]), ([9], [9]), ([9], [9]), ([11, 9], [9, 11]), ([10, 12, 9], [9, 10, 12]), ([13, 9], [9, 13]), ([9], [9]), ([9], [9]), ([15, 16, 9], [9, 15, 16]), ([17, 9], [9, 17]), ([14, 18, 9, 9], [9, 14, 18]), ([19, 9], [9, 19]), ([9, 20, 6], [6, 9, 20]), ([6, 21], [6, 21])])
def ssoF.B4 : List Nat := [0, 0, 3, 7, 15, 31, 63, 127, 255, 511, 1023, 1023, 3071, 8191, 16383, 1023, 1023, 99327, 230399, 524287, 1048575, 2097151, 4194303]
theorem ssoF.tab4 : rtab .any (opsOf Try.f84 4) = ssoF.T4 := by kernel_rfl
theorem ssoF.bits4 : waitsOk ssoF.T4.2 ssoF.B4 = true := by kernel_rfl
set_option maxHeartbeats 4000000 in
set_option maxRecDepth 100000 in
theorem spec_l09Solid.calls (k : Nat) (A0 : Option Addr) (c0 : Nat) (l : List Cb) (r : Bool) (w : World) (hr0 : Kd.C k94 w A0 l.length l) (hc0 : l.length ≤ c0) (h : spec_l09Solid.f k l = some r) :
    Calls Try.prog 84 #[.slice A0 l.length c0] w fun e w' => e = .returned (.bool r) ∧ Below w.heap.size w w' := by
 (have hu69 := Try.underlying94); (unfold spec_l09Solid.f at h); (split at h)
 case isFalse => cases h
 (rename_i hz); (obtain rfl := Option.some.inj h); (have HR0 := A0_ hr0); (have HZ := A0_ hz); (have HS := A0_ (Sp.start w)); clear hr0 hz h; (go_enter Try.func84, Try.ntmps84); go_wp2
 go_loopg [3] (l.length + 1) (fun kq v3 w' => ∃ (i : Nat), v3 = .int .i64 (i : Int) ∧ Aside0 (i ≤ l.length ∧ kq + i = l.length + 1 ∧ (List.range i).all (solStep l) = true) ∧ Aside0 (Sp w [] w'))
 case atStart => exact ⟨0, rfl, ⟨by omega, by omega, rfl⟩, HS⟩
 case round =>
  clear HS; (obtain ⟨i, rfl, HX, HS⟩ := hrel); (obtain ⟨k1, rfl⟩ : ∃ k1, gk = k1 + 1 := ⟨gk - 1, by have := HX.out; omega⟩); (by_cases ci : i < l.length)
  ·(have ci0 : decide (i < l.length) = true := decide_eq_true ci); (have q0 : (0 ≤ (i : Int)) = True := eq_true (by omega)); (have q1 : ((i : Int) < (l.length : Int)) = True := eq_true (by omega)); (have q2 : (i < l.length) = True := eq_true ci); (have HW := A0_ (wrap_succ i (by have := HZ.out; omega))); (have HNO := A0_ (solP_no l i ci)); (have HNX := A0_ (solP_next l i HX.out.2.2)); (obtain ⟨adl, e, hx0, hx1, hx2⟩ := at_T94 HR0.out (i : Int) (by omega) (by omega)); subst e; (rw [show rd_T94 l (i : Int) = cAt l i from rfl] at hx0 hx1 hx2); (rw [Int.toNat_natCast] at hx0 hx1 hx2); (have hss : solStep l i = (inCb (cAt l i) (-100) 100 && (decide (i = 0) || lessC (cAt l (i - 1)) (cAt l i))) := rfl); (rw [hss] at HNO HNX); clear hss; (have HCI := A0_ ci); (obtain ⟨c, hc⟩ : ∃ c, c = cAt l i := ⟨_, rfl⟩); (rw [← hc] at hx0 hx1 hx2 HNO HNX); (have HC0 := A0_ hx0); (have HC1 := A0_ hx1); (have HC2 := A0_ hx2); clear ci hc hx0 hx1 hx2; (replace HS := A0_ (show Sp w (([] : List Res) ++ ([] : List Res)) wr.drew from Sp.drew HS.out))
   cases b : inCb c (-100) 100 with
   | false =>
    (have HB := A0_ ((cube_eq c).trans (congrArg some b))); (have HF := A0_ (HNO.out (by rw [b]; rfl))); clear HNO HNX b; go_wp2
    refine start_ (n := 23) (S := fun w' => w'.cell? (adl.add (i * 3)) = some (.int .i64 c.f0) ∧ w'.cell? ⟨(adl.add (i * 3)).block, (adl.add (i * 3)).off + 1, none⟩ = some (.int .i64 c.f1) ∧ w'.cell? ⟨(adl.add (i * 3)).block, (adl.add (i * 3)).off + 2, none⟩ = some (.int .i64 c.f2)) (ds := []) #[ff,ff,ff,ff,ff,ff,ff,ff,ff,ff,ff,ff,ff,ff,ff,ff,ff,ff,ff,ff,ff,ff,ff] (by kernel_rfl) rfl rfl (⟨pw_cell_below HS.out.below HC0.out, pw_cell_below HS.out.below HC1.out, pw_cell_below HS.out.below HC2.out⟩) (fun hHeld => ?_)
    refine with_tabW ssoF.tab4 ssoF.bits4 (fun HT_ HW_ => ?_)
    (generalize wr.drew = wD at HS hHeld ⊢); (refine on_ 0 (some 10) ?_); (refine on_ 1 (some 11) ?_); (refine on_ 2 (some 12) ?_); (refine tk_ 3 (some 13) ?_)
    refine o1_ 4 (some 14) (fun K hK => ?_)
    (refine gs_ Try.func108 #[.agg #[.int .i64 c.f0, .int .i64 c.f1, .int .i64 c.f2]] ?_); (refine (spec_l09Cube.calls c.f0 c.f1 c.f2 false _ HB.out).mono ?_); (rintro e wA11 ⟨rfl, hb⟩); (refine ⟨_, rfl, ?_⟩); (replace HS := A0_ (Sp.far HS.out hb)); clear hb
    refine hK.out _ _ (⟨pw_cell_below HS.out.below HC0.out, pw_cell_below HS.out.below HC1.out, pw_cell_below HS.out.below HC2.out⟩) (fun hHeld => ?_)
    clear hK K; (refine nm_ (some 14) ?_); (refine on_ 5 (some 15) ?_); (refine on_ 6 (some 16) ?_); (refine of_ 7 (some 17) ?_); (refine of_ 8 (some 18) ?_); (refine of_ 9 (some 19) ?_); (refine of_ 10 (some 20) ?_); (refine of_ 11 (some 21) ?_); (refine of_ 12 (some 22) ?_); (refine of_ 13 (some 23) ?_); (refine of_ 14 (some 24) ?_); (refine of_ 15 (some 25) ?_); (refine of_ 16 (some 26) ?_); (refine of_ 17 (some 27) ?_); (refine of_ 18 (some 28) ?_); (refine of_ 19 (some 29) ?_); (refine of_ 20 (some 30) ?_); (refine of_ 21 (some 31) ?_); (refine on_ 22 (some 32) ?_); (refine dn_ ?_); go_wp2; go_ret; (exact ⟨by rw [HF.out]; rfl, HS.out.below⟩)
   | true =>
    (have HB := A0_ ((cube_eq c).trans (congrArg some b))); (rw [b, Bool.true_and] at HNO HNX); clear b; (by_cases hi0 : i = 0)
    ·(have HN := A0_ (HNX.out (by rw [decide_eq_true hi0]; rfl))); (have d0 : decide (0 < i) = false := decide_eq_false (by omega)); (have d1 : (0 < i) = False := eq_false (by omega)); (have d2 : decide ((0 : Int) < (i : Int)) = false := decide_eq_false (by omega)); (have d3 : ((0 : Int) < (i : Int)) = False := eq_false (by omega)); clear HNO HNX hi0; go_wp2
     refine start_ (n := 23) (S := fun w' => w'.cell? (adl.add (i * 3)) = some (.int .i64 c.f0) ∧ w'.cell? ⟨(adl.add (i * 3)).block, (adl.add (i * 3)).off + 1, none⟩ = some (.int .i64 c.f1) ∧ w'.cell? ⟨(adl.add (i * 3)).block, (adl.add (i * 3)).off + 2, none⟩ = some (.int .i64 c.f2)) (ds := []) #[ff,ff,ff,ff,ff,ff,ff,ff,ff,ff,ff,ff,ff,ff,ff,ff,ff,ff,ff,ff,ff,ff,ff] (by kernel_rfl) rfl rfl (⟨pw_cell_below HS.out.below HC0.out, pw_cell_below HS.out.below HC1.out, pw_cell_below HS.out.below HC2.out⟩) (fun hHeld => ?_)
     refine with_tabW ssoF.tab4 ssoF.bits4 (fun HT_ HW_ => ?_)
     (generalize wr.drew = wD at HS hHeld ⊢); (refine on_ 0 (some 10) ?_); (refine on_ 1 (some 11) ?_); (refine on_ 2 (some 12) ?_); (refine tk_ 3 (some 13) ?_)
     refine o1_ 4 (some 14) (fun K hK => ?_)
     (refine gs_ Try.func108 #[.agg #[.int .i64 c.f0, .int .i64 c.f1, .int .i64 c.f2]] ?_); (refine (spec_l09Cube.calls c.f0 c.f1 c.f2 true _ HB.out).mono ?_); (rintro e wA11 ⟨rfl, hb⟩); (refine ⟨_, rfl, ?_⟩); (replace HS := A0_ (Sp.far HS.out hb)); clear hb
     refine hK.out _ _ (⟨pw_cell_below HS.out.below HC0.out, pw_cell_below HS.out.below HC1.out, pw_cell_below HS.out.below HC2.out⟩) (fun hHeld => ?_)
     clear hK K; (refine nm_ (some 14) ?_); (refine on_ 5 (some 15) ?_); (refine on_ 6 (some 16) ?_); (refine on_ 7 (some 17) ?_); (refine on_ 8 (some 18) ?_); (refine on_ 9 (some 19) ?_); (refine of_ 10 (some 20) ?_); (refine of_ 11 (some 21) ?_); (refine of_ 12 (some 22) ?_); (refine of_ 13 (some 23) ?_); (refine of_ 14 (some 24) ?_); (refine of_ 15 (some 25) ?_); (refine of_ 16 (some 26) ?_); (refine of_ 17 (some 27) ?_); (refine of_ 18 (some 28) ?_); (refine of_ 19 (some 29) ?_); (refine of_ 20 (some 30) ?_); (refine on_ 21 (some 31) ?_); (refine on_ 22 (some 32) ?_); (refine dn_ ?_); go_wp2; (go_roundg k1)
     case measure => omega
     case rel =>
      (rw [HW.out]); (exact ⟨i + 1, rfl, ⟨by have := HCI.out; omega, by have := HX.out; omega, HN.out⟩, HS⟩)
    ·(have d0 : decide (0 < i) = true := decide_eq_true (by omega)); (have d1 : (0 < i) = True := eq_true (by omega)); (have d2 : decide ((0 : Int) < (i : Int)) = true := decide_eq_true (by omega)); (have d3 : ((0 : Int) < (i : Int)) = True := eq_true (by omega)); (have e1 : wrap64 ((i : Int) - 1) = ((i - 1 : Nat) : Int) := by rw [wrap_id (by omega) (by have := HZ.out; have := HCI.out; omega)]; omega); (have p0 : (0 ≤ ((i - 1 : Nat) : Int)) = True := eq_true (by omega)); (have p1 : (((i - 1 : Nat) : Int) < (l.length : Int)) = True := eq_true (by have := HCI.out; omega)); (have p2 : (i - 1 < l.length) = True := eq_true (by have := HCI.out; omega)); (rw [decide_eq_false hi0, Bool.false_or] at HNO HNX); (obtain ⟨ad2, e, hx0, hx1, hx2⟩ := at_T94 HR0.out ((i - 1 : Nat) : Int) (by omega) (by have := HCI.out; omega)); (injection e with e); subst e; (rw [show rd_T94 l ((i - 1 : Nat) : Int) = cAt l (i - 1) from rfl] at hx0 hx1 hx2); (rw [Int.toNat_natCast] at hx0 hx1 hx2); (obtain ⟨q, hq⟩ : ∃ q, q = cAt l (i - 1) := ⟨_, rfl⟩); (rw [← hq] at hx0 hx1 hx2 HNO HNX); (have HQ0 := A0_ hx0); (have HQ1 := A0_ hx1); (have HQ2 := A0_ hx2); (obtain ⟨t, ht⟩ : ∃ t, t = lessC q c := ⟨_, rfl⟩); (rw [← ht] at HNO HNX); (have HL := A0_ ((less_eq q c).trans (congrArg some ht.symm))); clear hx0 hx1 hx2 hq ht hi0; go_wp2
     refine start_ (n := 23) (S := fun w' => w'.cell? (adl.add (i * 3)) = some (.int .i64 c.f0) ∧ w'.cell? ⟨(adl.add (i * 3)).block, (adl.add (i * 3)).off + 1, none⟩ = some (.int .i64 c.f1) ∧ w'.cell? ⟨(adl.add (i * 3)).block, (adl.add (i * 3)).off + 2, none⟩ = some (.int .i64 c.f2) ∧ w'.cell? (adl.add ((i - 1) * 3)) = some (.int .i64 q.f0) ∧ w'.cell? ⟨(adl.add ((i - 1) * 3)).block, (adl.add ((i - 1) * 3)).off + 1, none⟩ = some (.int .i64 q.f1) ∧ w'.cell? ⟨(adl.add ((i - 1) * 3)).block, (adl.add ((i - 1) * 3)).off + 2, none⟩ = some (.int .i64 q.f2)) (ds := []) #[ff,ff,ff,ff,ff,ff,ff,ff,ff,ff,ff,ff,ff,ff,ff,ff,ff,ff,ff,ff,ff,ff,ff] (by kernel_rfl) rfl rfl (⟨pw_cell_below HS.out.below HC0.out, pw_cell_below HS.out.below HC1.out, pw_cell_below HS.out.below HC2.out, pw_cell_below HS.out.below HQ0.out, pw_cell_below HS.out.below HQ1.out, pw_cell_below HS.out.below HQ2.out⟩) (fun hHeld => ?_)
     refine with_tabW ssoF.tab4 ssoF.bits4 (fun HT_ HW_ => ?_)
     (generalize wr.drew = wD at HS hHeld ⊢); (refine on_ 0 (some 10) ?_); (refine on_ 1 (some 11) ?_); (refine on_ 2 (some 12) ?_); (refine tk_ 3 (some 13) ?_)
     refine o1_ 4 (some 14) (fun K hK => ?_)
     (refine gs_ Try.func108 #[.agg #[.int .i64 c.f0, .int .i64 c.f1, .int .i64 c.f2]] ?_); (refine (spec_l09Cube.calls c.f0 c.f1 c.f2 true _ HB.out).mono ?_); (rintro e wA11 ⟨rfl, hb⟩); (refine ⟨_, rfl, ?_⟩); (replace HS := A0_ (Sp.far HS.out hb)); clear hb
     refine hK.out _ _ (⟨pw_cell_below HS.out.below HC0.out, pw_cell_below HS.out.below HC1.out, pw_cell_below HS.out.below HC2.out, pw_cell_below HS.out.below HQ0.out, pw_cell_below HS.out.below HQ1.out, pw_cell_below HS.out.below HQ2.out⟩) (fun hHeld => ?_)
     clear hK K; (refine nm_ (some 14) ?_); (refine on_ 5 (some 15) ?_); (refine on_ 6 (some 16) ?_); (refine on_ 7 (some 17) ?_); (refine on_ 8 (some 18) ?_); (refine on_ 9 (some 19) ?_); (refine on_ 10 (some 20) ?_); (refine on_ 11 (some 21) ?_); (refine on_ 12 (some 22) ?_); (refine on_ 13 (some 23) ?_); (refine tk_ 14 (some 24) ?_); (refine on_ 15 (some 25) ?_); (refine on_ 16 (some 26) ?_); (refine on_ 17 (some 27) ?_); (refine tk_ 18 (some 28) ?_)
     refine o1_ 19 (some 29) (fun K hK => ?_)
     (refine gs_ Try.func109 #[.agg #[.int .i64 q.f0, .int .i64 q.f1, .int .i64 q.f2], .agg #[.int .i64 c.f0, .int .i64 c.f1, .int .i64 c.f2]] ?_); (refine (spec_l09Less.calls q.f0 q.f1 q.f2 c.f0 c.f1 c.f2 t _ HL.out).mono ?_); (rintro e wA12 ⟨rfl, hb⟩); (refine ⟨_, rfl, ?_⟩); (replace HS := A0_ (Sp.far HS.out hb)); clear hb
     refine hK.out _ _ (⟨pw_cell_below HS.out.below HC0.out, pw_cell_below HS.out.below HC1.out, pw_cell_below HS.out.below HC2.out, pw_cell_below HS.out.below HQ0.out, pw_cell_below HS.out.below HQ1.out, pw_cell_below HS.out.below HQ2.out⟩) (fun hHeld => ?_)
     clear hK K; (refine nm_ (some 29) ?_); (refine on_ 20 (some 30) ?_); (refine on_ 21 (some 31) ?_); (refine on_ 22 (some 32) ?_); (refine dn_ ?_)
     cases t with
     | true =>
      (have HN := A0_ (HNX.out rfl)); go_wp2; (go_roundg k1)
      case measure => omega
      case rel =>
       (rw [HW.out]); (exact ⟨i + 1, rfl, ⟨by have := HCI.out; omega, by have := HX.out; omega, HN.out⟩, HS⟩)
     | false =>
      (have HF := A0_ (HNO.out rfl)); go_wp2; go_ret; (exact ⟨by rw [HF.out]; rfl, HS.out.below⟩)
  ·(have ci0 : decide (i < l.length) = false := decide_eq_false ci); (have ci1 : (i < l.length) = False := eq_false ci); (have hi : i = l.length := by have := HX.out; omega); (have HF := A0_ ((in_eq (l.length : Int) 1 24).trans (congrArg some (solP_end l (hi ▸ HX.out.2.2)).symm))); clear ci hi
   go_wp2_with (first
    | (go_at_call 64; refine (spec_l01In.calls (l.length : Int) 1 24 (solP l) _ HF.out).mono ?_; rintro e wc_ ⟨rfl, hb_⟩; replace HS := A0_ (Sp.far HS.out hb_.below); clear hb_))
   go_ret; (exact ⟨rfl, HS.out.below⟩)
end Go.Proofs.Ytcobnlilmihjfaa.A

namespace Go.Proofs.Ytcobnlilmihjfaa.A
open Go.RowKit Go.Proofs.YtcobnlilmihjfaaW.PrintWords Go.Proofs.YtcobnlilmihjfaaW.PrintLast Go.Proofs.YtcobnlilmihjfaaW.PrintMore
set_option linter.unusedVariables false
set_option linter.unusedSimpArgs false
theorem isolid_ev (l : List Cb) (h : l.length ≤ 1048576) : Ev (fun k => impl_isSolid.f k l) (solP l) := Ev.val fun k => by unfold impl_isSolid.f; rw [if_pos h]
theorem addO_sub {l o : List Cb} (h : ∀ c ∈ o, c ∈ l) (c : Cb) : ∀ x ∈ addO l o c, x ∈ l := by
 unfold addO
 split
 case isFalse => exact h
 rename_i hb
 rw [Bool.and_eq_true, List.contains_iff_mem] at hb
 intro x hx
 rcases List.mem_append.1 hx with hx | hx
 ·exact h x hx
 ·rw [List.mem_singleton.1 hx]; exact hb.1
theorem expI_sub {l o : List Cb} (h : ∀ c ∈ o, c ∈ l) (c : Cb) : ∀ i, i ≤ 6 → ∀ x ∈ expI l o c i, x ∈ l
 | 0, _ => h
 | i + 1, hi => by
  rw [expI_succ l o c i (by omega)]
  exact addO_sub (expI_sub h c i (by omega)) _
theorem around_eq (c : Cb) (h : inCb c (-100) 100 = true) : impl_cubesAround.f c.f0 c.f1 c.f2 = some (stepsC.map (addC c)) := by
 rw [inCb_iff] at h
 unfold impl_cubesAround.f stepsC addC
 simp only [List.map_cons, List.map_nil]
 have w0 : ∀ x : Int, -100 ≤ x → x ≤ 100 → wrap64 (x + 0) = x := fun x h1 h2 => by rw [Int.add_zero]; exact wrap_id (by omega) (by omega)
 rw [w0 _ h.1.1 h.1.2, w0 _ h.2.1.1 h.2.1.2, w0 _ h.2.2.1 h.2.2.2]
 rfl
theorem con_in (l : List Cb) (h : l.length ≤ 1048576) (o c nb) (hnb : nb = stepsC.map (addC c)) (hf : FitO l o) (k : Int) (R : Bool) (hR : Ev (fun n => impl_connectedCubes.l0 n l (expI l o c 6) (wrap64 (k + 1))) R) :
  ∀ (j i : Nat), i + j = 6 → Ev (fun n => impl_connectedCubes.l1 n l (expI l o c i) k nb (nb.length : Int) (i : Int)) R
 | 0, i, hi => by
  have : i = 6 := by omega
  subst this
  refine Ev.step (f := fun n => impl_connectedCubes.l0 n l (expI l o c 6) (wrap64 (k + 1))) (fun n => ?_) hR
  have hl : nb.length = 6 := by rw [hnb]; rfl
  simp only [impl_connectedCubes.l1]
  rw [if_neg (by omega)]
 | j + 1, i, hi => by
  have ih := con_in l h o c nb hnb hf k R hR j (i + 1) (by omega)
  have hl : nb.length = 6 := by rw [hnb]; rfl
  have hi6 : i < 6 := by omega
  have hx : rd_T94 nb (i : Int) = addC c (cAt stepsC i) := by
   subst hnb
   have hs : i < (stepsC.map (addC c)).length := hi6
   have hs2 : i < stepsC.length := hi6
   unfold rd_T94 cAt
   rw [getD_nat _ _ i hs, List.getElem_map, List.getD_eq_getElem?_getD, List.getElem?_eq_getElem hs2]
   rfl
  have hw := wrap_succ i (by omega)
  have hsz := (FitO.exp hf c i (by omega)).len
  have hes := expI_succ l o c i hi6
  generalize addC c (cAt stepsC i) = x at hx hes
  refine Ev.step (f := fun n => (impl_Cube_104.f n l x.f0 x.f1 x.f2).bind fun t => if t = true then (impl_Cube_104.f n (expI l o c i) x.f0 x.f1 x.f2).bind fun t2 => if t2 = true then impl_connectedCubes.l1 n l (expI l o c i) k nb (nb.length : Int) ((i + 1 : Nat) : Int) else impl_connectedCubes.l1 n l (expI l o c i ++ [x]) k nb (nb.length : Int) ((i + 1 : Nat) : Int) else impl_connectedCubes.l1 n l (expI l o c i) k nb (nb.length : Int) ((i + 1 : Nat) : Int)) (fun n => ?_) (Ev.bind (contains_ev l x h) ?_)
  ·simp only [impl_connectedCubes.l1, hx, hw, if_true, show (i : Int) < (nb.length : Int) from by omega, show (0 : Int) ≤ (i : Int) from by omega, show (expI l o c i).length < 5864062014805 from by omega]
  ·unfold addO at hes
   cases c1 : l.contains x with
   | false =>
    rw [c1, Bool.false_and, if_neg (by simp)] at hes
    rw [hes] at ih
    exact ih
   | true =>
    refine Ev.bind (contains_ev (expI l o c i) x (by omega)) ?_
    cases c2 : (expI l o c i).contains x with
    | true =>
     rw [c1, c2, Bool.not_true, Bool.and_false, if_neg (by simp)] at hes
     rw [hes] at ih
     exact ih
    | false =>
     rw [c1, c2, Bool.not_false, Bool.and_true, if_pos rfl] at hes
     rw [hes] at ih
     exact ih
theorem con_out (l : List Cb) (h : l.length ≤ 1048576) (hr : ∀ c ∈ l, inCb c (-100) 100 = true) : ∀ (f : Nat) (o : List Cb) (k : Nat), f + k = l.length + 1 → k ≤ o.length → FitO l o → (∀ c ∈ o, c ∈ l) → Ev (fun n => impl_connectedCubes.l0 n l o (k : Int)) (decide ((bfsO l f o k).length = l.length))
 | 0, o, k, hf, hk, hft, hs => by
  have := hft.len
  omega
 | f + 1, o, k, hf, hk, hft, hs => by
  have hol := hft.len
  unfold bfsO
  by_cases c : k < o.length
  ·rw [if_pos c]
   have hpr := expI_pre l o (cAt o k) k c 6 (Nat.le_refl _)
   have ih := con_out l h hr f (expI l o (cAt o k) 6) (k + 1) (by omega) (by omega) (FitO.exp hft _ 6 (Nat.le_refl _)) (expI_sub hs _ 6 (Nat.le_refl _))
   have hm : cAt o k ∈ o := by
    have : cAt o k = o[k] := by simp [cAt, List.getD_eq_getElem?_getD, c]
    rw [this]; exact List.getElem_mem _
   have hw := wrap_succ k (by omega)
   have ha := around_eq (cAt o k) (hr _ (hs _ hm))
   have hg : rd_T94 o (k : Int) = cAt o k := rfl
   have hin := con_in l h o (cAt o k) (stepsC.map (addC (cAt o k))) rfl hft (k : Int) _ (by rw [hw]; exact ih) 6 0 (by omega)
   refine Ev.step (f := fun n => impl_connectedCubes.l1 n l o (k : Int) (stepsC.map (addC (cAt o k))) ((stepsC.map (addC (cAt o k))).length : Int) 0) (fun n => ?_) hin
   simp only [impl_connectedCubes.l0, hg, ha, Option.bind_some, if_true, show (k : Int) < (o.length : Int) from by omega, show (0 : Int) ≤ (k : Int) from by omega]
  ·rw [if_neg c]
   refine Ev.step (f := fun n => some (decide (o.length = l.length))) (fun n => ?_) (Ev.now _)
   simp only [impl_connectedCubes.l0]
   rw [if_neg (by omega)]
   congr 1
   rw [Bool.eq_iff_iff, beq_iff_eq, decide_eq_true_eq]
   omega
theorem icon_ev (l : List Cb) (h1 : 1 ≤ l.length) (h : l.length ≤ 1048576) (hr : ∀ c ∈ l, inCb c (-100) 100 = true) : Ev (fun k => impl_connectedCubes.f k l) (conP l) := by
 have hm : cAt l 0 ∈ l := by
  have h0 : 0 < l.length := h1
  have : cAt l 0 = l[0] := by simp [cAt, List.getD_eq_getElem?_getD, h0]
  rw [this]; exact List.getElem_mem _
 refine Ev.congr (f := fun k => impl_connectedCubes.l0 k l [cAt l 0] ((0 : Nat) : Int)) (fun k => ?_) (con_out l h hr (l.length + 1) [cAt l 0] 0 (by omega) (by simp) (FitO.start h1) (fun c hc => by rw [List.mem_singleton.1 hc]; exact hm))
 unfold impl_connectedCubes.f
 rw [if_pos (by omega)]
 rfl
theorem sol_in (l : List Cb) (h : solP l = true) : 1 ≤ l.length ∧ l.length ≤ 24 ∧ ∀ c ∈ l, inCb c (-100) 100 = true := by
 unfold solP at h
 rw [Bool.and_eq_true, Bool.and_eq_true, decide_eq_true_eq, decide_eq_true_eq, List.all_eq_true] at h
 refine ⟨h.2.1, h.2.2, fun c hc => ?_⟩
 obtain ⟨i, hi, rfl⟩ := List.mem_iff_getElem.1 hc
 have := h.1 i (List.mem_range.2 hi)
 unfold solStep at this
 rw [Bool.and_eq_true] at this
 have e : oAt l i = l[i] := by simp [oAt, List.getD_eq_getElem?_getD, hi]
 rw [← e]
 exact this.1
section
attribute [local go_sem] max2_int min2_int max_two min_two max_three min_three max_four min_four
def spec_l09Steps.f  : Option ((List (S94))) := some (([(⟨0, 0, (-1)⟩ : S94), (⟨0, (-1), 0⟩ : S94), (⟨(-1), 0, 0⟩ : S94), (⟨1, 0, 0⟩ : S94), (⟨0, 1, 0⟩ : S94), (⟨0, 0, 1⟩ : S94)] : List (S94)))
set_option maxHeartbeats 8000000 in
set_option maxRecDepth 100000 in
theorem spec_l09Steps.calls  (r : List (S94)) (w : World) (h : spec_l09Steps.f  = some r) :
    Calls Try.prog 95 #[] w fun e w' => ∃ v0_ : Value, e = .returned (v0_) ∧ Kd.R k94 94 w' w.heap.size (fun _ => True) v0_ r ∧ Below w.heap.size w w' := by
 (have hu94 := Try.underlying94); (have HB := A0_ (Below.refl w.heap.size w)); (have H : (some (([(⟨0, 0, (-1)⟩ : S94), (⟨0, (-1), 0⟩ : S94), (⟨(-1), 0, 0⟩ : S94), (⟨1, 0, 0⟩ : S94), (⟨0, 1, 0⟩ : S94), (⟨0, 0, 1⟩ : S94)] : List (S94)))) = some r := h); clear h; (obtain ⟨y122, hy122⟩ : ∃ y_ : List (S94), y_ = (([(⟨0, 0, (-1)⟩ : S94), (⟨0, (-1), 0⟩ : S94), (⟨(-1), 0, 0⟩ : S94), (⟨1, 0, 0⟩ : S94), (⟨0, 1, 0⟩ : S94), (⟨0, 0, 1⟩ : S94)] : List (S94))) := ⟨_, rfl⟩); (replace H : (some y122) = some r := by first | (rw [hy122]; with_reducible exact H) | (have H2_ := (Option.bind_some _ _).symm.trans H; rw [hy122]; with_reducible exact H2_) | (have H2_ := (Option.bind_some _ _).symm.trans H; with_reducible exact H2_) | with_reducible exact H | (rw [hy122]; exact H) | exact H); (have Ny122 := A0_ hy122); clear hy122; (obtain rfl := Option.some.inj H); (go_enter Try.func95, Try.ntmps95)
 go_wp2_with (first | ((with_reducible refine gate_dst (N := 7) rfl ?_); refine Kd.R_lit k94 _ 94 ?hg (N := 7) ?hd (xs := ([(⟨0, 0, (-1)⟩ : S94), (⟨0, (-1), 0⟩ : S94), (⟨(-1), 0, 0⟩ : S94), (⟨1, 0, 0⟩ : S94), (⟨0, 1, 0⟩ : S94), (⟨0, 0, 1⟩ : S94)] : List (S94))) (inner := [.int .i64 0, .int .i64 0, .int .i64 (-1), .int .i64 0, .int .i64 (-1), .int .i64 0, .int .i64 (-1), .int .i64 0, .int .i64 0, .int .i64 1, .int .i64 0, .int .i64 0, .int .i64 0, .int .i64 1, .int .i64 0, .int .i64 0, .int .i64 0, .int .i64 1]) (ok := fun _ => True) (okp := fun _ => True) ?hr ?hp (fun _ hk => hk) trivial (Below.refl _ _) (Nat.le_refl _) (by simp) ?_; (case hd => rfl); (case hg => rfl); (case hr => first | (go_simp; done) | (go_simp; rfl)); (case hp => exact (Reps.c3 (show Kd.M k94 _ _ _ (⟨0, 0, (-1)⟩ : S94) [.int .i64 0, .int .i64 0, .int .i64 (-1)] from (k94_mkM _ _ _ (⟨0, 0, (-1)⟩ : S94) )) (Reps.c3 (show Kd.M k94 _ _ _ (⟨0, (-1), 0⟩ : S94) [.int .i64 0, .int .i64 (-1), .int .i64 0] from (k94_mkM _ _ _ (⟨0, (-1), 0⟩ : S94) )) (Reps.c3 (show Kd.M k94 _ _ _ (⟨(-1), 0, 0⟩ : S94) [.int .i64 (-1), .int .i64 0, .int .i64 0] from (k94_mkM _ _ _ (⟨(-1), 0, 0⟩ : S94) )) (Reps.c3 (show Kd.M k94 _ _ _ (⟨1, 0, 0⟩ : S94) [.int .i64 1, .int .i64 0, .int .i64 0] from (k94_mkM _ _ _ (⟨1, 0, 0⟩ : S94) )) (Reps.c3 (show Kd.M k94 _ _ _ (⟨0, 1, 0⟩ : S94) [.int .i64 0, .int .i64 1, .int .i64 0] from (k94_mkM _ _ _ (⟨0, 1, 0⟩ : S94) )) (Reps.c3 (show Kd.M k94 _ _ _ (⟨0, 0, 1⟩ : S94) [.int .i64 0, .int .i64 0, .int .i64 1] from (k94_mkM _ _ _ (⟨0, 0, 1⟩ : S94) )) (Reps.none _ _)))))))); intro v123 w1 ho2 hb hg_ hnew_; clear hg_ hnew_; (first | rw [← Ny122.out] at ho2 | (simp only [Int.reduceToNat] at ho2; rw [← Ny122.out] at ho2)); have n0_ := A0_ (Kd.R_lower ho2 (below_size bw_)); have n1_ := A0_ (below_step bw_ hb); clear HB; have HO124 := n0_; have HB := n1_; clear n0_ n1_; clear hb ho2))
 go_ret; (exact ⟨_, by first | rfl | (simp [errW_none, errW_some] <;> rfl) | (simp [*, errW_none, errW_some] <;> rfl), by (with_reducible repeat (first | apply Ra_ | apply Rn_ | apply Rd_)); exact HO124.out, bx_⟩)
end
theorem Sp.cbCells {w0 w : World} {rs : List Res} {i base n c : Nat} {ad : Addr} {xs : List Cb} (h : Sp w0 rs w) (hi : rs[i]? = some (Res.row kC 94 base (.slice (some ad) n c) xs)) (k : Nat) (hk : k < xs.length) :
    w.cell? (ad.add (k * 3)) = some (.int .i64 (cAt xs k).f0) ∧ w.cell? ⟨(ad.add (k * 3)).block, (ad.add (k * 3)).off + 1, none⟩ = some (.int .i64 (cAt xs k).f1) ∧ w.cell? ⟨(ad.add (k * 3)).block, (ad.add (k * 3)).off + 2, none⟩ = some (.int .i64 (cAt xs k).f2) := by
 (obtain ⟨ad2, e, h0, h1, h2⟩ := at_T94 (Sp.reads h hi).2.2 (k : Int) (by omega) (by omega)); (injection e with e); subst e; (exact ⟨h0, h1, h2⟩)
def spec_l09Connected.f (k : Nat) (l : List Cb) : Option Bool := if 1 ≤ l.length ∧ l.length ≤ 1048576 then some (conP l) else none
theorem sindex_at (l : List Cb) (x : Cb) (h : l.length ≤ 1048576) : ∃ (K : Nat) (r : Int), decide (r ≥ 0) = l.contains x ∧ spec_l09Index.f K l x.f0 x.f1 x.f2 = some r := by
 (obtain ⟨r, h1, h2⟩ := sindex_ev l x h); (obtain ⟨K, hK⟩ := h2.rounds); (exact ⟨K, r, h1, hK⟩)
def conF.T8 : Bool × List (List Nat × List Nat) := (true, [([], []), ([], []), ([0, 1], [0, 1]), ([2], [2]), ([], []), ([], []), ([4, 5], [4, 5]), ([6], [6]), ([3, 7, 4], [3, 7]), ([], []), ([9, 8, 8, 0, 1, 2, 3, 4, 5, 6, 7, 8, 9], [8, 9])])
def conF.B8 : List Nat := [0, 0, 3, 7, 0, 0, 48, 112, 255, 0, 1023]
theorem conF.tab8 : rtab .any (opsOf Try.f85 8) = conF.T8 := by kernel_rfl
theorem conF.bits8 : waitsOk conF.T8.2 conF.B8 = true := by kernel_rfl
set_option maxHeartbeats 4000000 in
set_option maxRecDepth 100000 in
theorem spec_l09Connected.calls (k : Nat) (A0 : Option Addr) (c0 : Nat) (l0 : List Cb) (r : Bool) (w : World) (hr0 : Kd.C k94 w A0 l0.length l0) (hc0 : l0.length ≤ c0) (h : spec_l09Connected.f k l0 = some r) :
    Calls Try.prog 85 #[.slice A0 l0.length c0] w fun e w' => e = .returned (.bool r) ∧ Below w.heap.size w w' := by
 (have hu69 := Try.underlying94); (unfold spec_l09Connected.f at h); (split at h)
 case isFalse => cases h
 (rename_i hz); (have HRR := A0_ (show conP l0 = r from Option.some.inj h)); (have HR0 := A0_ hr0); (have HC0 := A0_ hc0); (have HZ := A0_ hz)
 have HIX := A0_ (fun (l : List Cb) (x : Cb) (hl : l.length ≤ 1048576) => sindex_at l x hl)
 (have HS := A0_ (Sp.start w)); (have HST := A0_ (FitO.start hz.1)); clear hr0 hc0 hz h; (obtain ⟨ad0, e0, hx0, hx1, hx2⟩ := at_T94 HR0.out 0 (by omega) (by have := HZ.out.1; omega)); subst e0; (rw [show rd_T94 l0 0 = cAt l0 0 from rfl] at hx0 hx1 hx2); (rw [show (0 : Int).toNat * 3 = 0 from rfl, Addr.add_zero'] at hx0 hx1 hx2); (have q0 : (0 < l0.length) = True := eq_true (by have := HZ.out.1; omega)); (have q1 : ((0 : Int) < (l0.length : Int)) = True := eq_true (by have := HZ.out.1; omega)); (obtain ⟨cf, hcf⟩ : ∃ cf, cf = cAt l0 0 := ⟨_, rfl⟩); (rw [← hcf] at hx0 hx1 hx2 HST); (have HCF := A0_ hcf); clear hcf; (rw [← HRR.out]); clear HRR; (have HFIN := A0_ (show conP l0 = decide ((bfsO l0 (l0.length + 1 - 0) [cf] 0).length = l0.length) by rw [HCF.out]; rfl)); (go_enter Try.func85, Try.ntmps85)
 go_wp2_with (first
  | ((with_reducible refine gate_dst (N := 10) rfl ?_); refine Kd.R_lit kC _ 94 ?hg (N := 10) ?hd (xs := [cf]) (inner := [.int .i64 cf.f0, .int .i64 cf.f1, .int .i64 cf.f2]) (ok := fun _ => True) (okp := fun _ => True) ?hr ?hp (fun _ hk => hk) trivial (Below.refl _ _) (Nat.le_refl _) (by simp) ?_; (case hd => rfl); (case hg => rfl); (case hr => first | (go_simp; done) | (go_simp; rfl)); (case hp => exact (Reps.c3 (show Kd.M kC _ _ _ cf [.int .i64 cf.f0, .int .i64 cf.f1, .int .i64 cf.f2] from k94_mkM _ _ _ cf) (Reps.none _ _))); intro vl_ wl_ ho_ hb_ hg_ hn_; clear hg_ hn_; replace HS := A0_ (Sp.made' HS.out hb_ ho_); clear ho_ hb_; obtain ⟨Al, cl, ev_⟩ := Sp.slice HS.out (i := 0) rfl; subst ev_; clear hx0 hx1 hx2))
 go_loopg [3, 4] (l0.length + 2) (fun kq v3 v4 w' => ∃ (k : Nat) (o : List Cb) (A : Option Addr) (ca : Nat), v4 = .int .i64 (k : Int) ∧ v3 = .slice A o.length ca ∧ Aside0 (k ≤ o.length ∧ FitO l0 o ∧ kq + k = l0.length + 2) ∧ Aside0 (conP l0 = decide ((bfsO l0 (l0.length + 1 - k) o k).length = l0.length)) ∧ Aside0 (Sp w ([Res.row kC 94 w.heap.size (.slice A o.length ca) o]) w'))
 case atStart => exact ⟨0, [cf], Al, cl, rfl, rfl, ⟨by simp, HST.out, by omega⟩, HFIN, HS⟩
 case round =>
  clear HS HFIN HST; (obtain ⟨k, o, A, ca, rfl, rfl, HX, HFIN, HS⟩ := hrel); (obtain ⟨k1, rfl⟩ : ∃ k1, gk = k1 + 1 := ⟨gk - 1, by have := HX.out; have := HX.out.2.1.len; omega⟩); (by_cases ck : k < o.length)
  ·(have ck0 : decide (k < o.length) = true := decide_eq_true ck); (have HW := A0_ (wrap_succ k (by have := HX.out.2.1.len; have := HZ.out.2; omega))); (have HPR := A0_ (expI_pre l0 o (cAt o k) k ck))
   have HFT := A0_ (fun i hi => FitO.exp HX.out.2.1 (cAt o k) i hi)
   have HNX := A0_ (show bfsO l0 (l0.length + 1 - k) o k = bfsO l0 (l0.length + 1 - (k + 1)) (expI l0 o (cAt o k) 6) (k + 1) by
    (have h1 := HX.out.2.1.len); (rw [show l0.length + 1 - k = (l0.length + 1 - (k + 1)) + 1 from by omega]); (exact if_pos ck))
   (obtain ⟨c, hc⟩ : ∃ c, c = cAt o k := ⟨_, rfl⟩); (rw [← hc] at HPR HFT HNX); clear ck hc; go_wp2
   go_loopg [3, 5] 7 (fun kq v3 v5 w' => ∃ (i : Nat) (A : Option Addr) (ca : Nat), v5 = .int .i64 (i : Int) ∧ v3 = .slice A (expI l0 o c i).length ca ∧ Aside0 (i ≤ 6 ∧ kq + i = 7) ∧ Aside0 (Sp w ([Res.row kC 94 w.heap.size (.slice A (expI l0 o c i).length ca) (expI l0 o c i)]) w'))
   case atStart => exact ⟨0, A, ca, rfl, rfl, ⟨by omega, by omega⟩, HS⟩
   case round =>
    clear HS; (obtain ⟨i, A, ca, rfl, rfl, HY, HS⟩ := hrel); (obtain ⟨k2, rfl⟩ : ∃ k2, gk = k2 + 1 := ⟨gk - 1, by have := HY.out; omega⟩); (by_cases ci : i < 6)
    ·(have ci0 : decide (i < 6) = true := decide_eq_true ci); (have ci1 : (i < 6) = True := eq_true ci); (have ci2 : decide ((i : Int) < 6) = true := decide_eq_true (by omega)); (have ci3 : ((i : Int) < 6) = True := eq_true (by omega)); (have HI6 := A0_ ci); (have HWI := A0_ (wrap_succ i (by omega))); (have HPI := HPR.out i (by omega)); (have HKX := A0_ HPI.1); (have HOA := A0_ HPI.2); (have HFI := A0_ (HFT.out i (by omega))); (have HES := A0_ (expI_succ l0 o c i ci)); (obtain ⟨si, hsi⟩ : ∃ si, si = cAt stepsC i := ⟨_, rfl⟩); (have HSI0 := A0_ hsi.symm); (rw [← hsi] at HES); clear hsi HPI ci; (obtain ⟨x, hx⟩ : ∃ x, x = addC c si := ⟨_, rfl⟩); (have q0 : (0 ≤ (k : Int)) = True := eq_true (by omega)); (have q1 : ((k : Int) < ((expI l0 o c i).length : Int)) = True := eq_true (by have := HKX.out; omega)); (have q2 : (k < (expI l0 o c i).length) = True := eq_true HKX.out); (have q3 : (0 ≤ (i : Int)) = True := eq_true (by omega)); (have q4 : ((i : Int) < ((stepsC).length : Int)) = True := eq_true (by have := HI6.out; rw [show (stepsC).length = 6 from rfl]; omega)); (have q5 : (i < (stepsC).length) = True := eq_true HI6.out)
     obtain ⟨ado, hado⟩ : ∃ ado, A = some ado := by
      (obtain ⟨ad2, e, _⟩ := at_T94 (Sp.reads HS.out (i := 0) rfl).2.2 (k : Int) (by omega) (by have := HKX.out; omega)); (exact ⟨ad2, e⟩)
     subst hado
     (replace HS := A0_ (show Sp w ([Res.row kC 94 w.heap.size (.slice (some ado) (expI l0 o c i).length ca) (expI l0 o c i)] ++ ([] : List Res)) wr.drew from Sp.drew HS.out)); go_wp2
     refine start_ (n := 11) (S := fun w' => w'.cell? (ado.add (k * 3)) = some (.int .i64 c.f0) ∧ w'.cell? ⟨(ado.add (k * 3)).block, (ado.add (k * 3)).off + 1, none⟩ = some (.int .i64 c.f1) ∧ w'.cell? ⟨(ado.add (k * 3)).block, (ado.add (k * 3)).off + 2, none⟩ = some (.int .i64 c.f2)) (ds := []) #[ff,ff,ff,ff,ff,ff,ff,ff,ff,ff,ff] (by kernel_rfl) rfl rfl (⟨((HOA.out ▸ Sp.cbCells HS.out (i := 0) rfl k HKX.out).1), ((HOA.out ▸ Sp.cbCells HS.out (i := 0) rfl k HKX.out).2.1), ((HOA.out ▸ Sp.cbCells HS.out (i := 0) rfl k HKX.out).2.2)⟩) (fun hHeld => ?_)
     refine with_tabW conF.tab8 conF.bits8 (fun HT_ HW_ => ?_)
     (generalize wr.drew = wD at HS hHeld ⊢); (refine on_ 0 (some 21) ?_); (refine on_ 1 (some 22) ?_); (refine on_ 2 (some 23) ?_); (refine tk_ 3 (some 24) ?_); (refine on_ 5 (some 26) ?_)
     refine o2_ 4 9 (some 25) (some 6) (fun K hK => ?_) (fun K hK => ?_)
     ·(refine gs_ Try.func95 #[] ?_); (refine (spec_l09Steps.calls stepsC _ rfl).mono ?_); (rintro e wA11 ⟨vA11, rfl, ho, hb⟩); (refine ⟨_, rfl, ?_⟩); (replace HS := A0_ (Sp.made' HS.out hb ho)); clear hb ho; (obtain ⟨AA11, cA11, rfl⟩ := Sp.slice HS.out (i := 0) rfl); (obtain ⟨ads, es_, _⟩ := at_T94 (Sp.reads HS.out (i := 0) rfl).2.2 (0 : Int) (by omega) (by decide)); subst es_
      refine hK.out _ _ (⟨((HOA.out ▸ Sp.cbCells HS.out (i := 1) rfl k HKX.out).1), ((HOA.out ▸ Sp.cbCells HS.out (i := 1) rfl k HKX.out).2.1), ((HOA.out ▸ Sp.cbCells HS.out (i := 1) rfl k HKX.out).2.2)⟩) (fun hHeld => ?_)
      clear hK K; (refine nm_ (some 25) ?_); (refine on_ 6 (some 27) ?_)
      refine o2_ 7 9 (some 28) (some 6) (fun K hK => ?_) (fun K hK => ?_)
      ·(obtain ⟨hs0, hs1, hs2⟩ := Sp.cbCells HS.out (i := 0) rfl i HI6.out); (rw [HSI0.out] at hs0 hs1 hs2); (refine event_step (v := .agg #[.int .i64 si.f0, .int .i64 si.f1, .int .i64 si.f2]) (w1 := wA11) (by rfl) (by first | (go_simp; done) | (go_simp; rfl)) ?_); clear hs0 hs1 hs2
       refine hK.out _ _ (⟨((HOA.out ▸ Sp.cbCells HS.out (i := 1) rfl k HKX.out).1), ((HOA.out ▸ Sp.cbCells HS.out (i := 1) rfl k HKX.out).2.1), ((HOA.out ▸ Sp.cbCells HS.out (i := 1) rfl k HKX.out).2.2)⟩) (fun hHeld => ?_)
       clear hK K; (refine nm_ (some 28) ?_)
       refine o2_ 8 9 (some 29) (some 6) (fun K hK => ?_) (fun K hK => ?_)
       ·(refine gs_ Try.func89 #[.agg #[.int .i64 c.f0, .int .i64 c.f1, .int .i64 c.f2], .agg #[.int .i64 si.f0, .int .i64 si.f1, .int .i64 si.f2]] ?_); (refine (spec_l09Add.calls c.f0 c.f1 c.f2 si.f0 si.f1 si.f2 (addC c si).f0 (addC c si).f1 (addC c si).f2 _ rfl).mono ?_); (rintro e wA12 ⟨rfl, hb⟩); (refine ⟨_, rfl, ?_⟩); (replace HS := A0_ (Sp.far HS.out hb)); clear hb
        refine hK.out _ _ (⟨((HOA.out ▸ Sp.cbCells HS.out (i := 1) rfl k HKX.out).1), ((HOA.out ▸ Sp.cbCells HS.out (i := 1) rfl k HKX.out).2.1), ((HOA.out ▸ Sp.cbCells HS.out (i := 1) rfl k HKX.out).2.2)⟩) (fun hHeld => ?_)
        clear hK K; (refine nm_ (some 29) ?_)
        refine o1_ 9 (some 6) (fun K hK => ?_)
        (refine event_step (v := .pointer (some ⟨wA12.heap.size, 0, none⟩)) (w1 := wA12.alloc (.cells #[.int .i64 0, .int .i64 0, .int .i64 0] 94)) (by rfl) (by first | (go_simp; done) | (go_simp; rfl)) ?_); (obtain ⟨gx, hg_⟩ : ∃ g_, g_ = (wA12).heap.size := ⟨_, rfl⟩); (obtain ⟨wB13, hw_⟩ : ∃ w_, w_ = World.alloc wA12 (.cells #[.int .i64 0, .int .i64 0, .int .i64 0] 94) := ⟨_, rfl⟩); (rw [← hw_, ← hg_]); (have HS_ := A0_ (Sp.box HS.out #[.int .i64 0, .int .i64 0, .int .i64 0] 94)); (rw [← hw_, ← hg_] at HS_); clear HS; (have HS := HS_); clear HS_ hw_ hg_
        refine hK.out _ _ (⟨((HOA.out ▸ Sp.cbCells HS.out (i := 2) rfl k HKX.out).1), ((HOA.out ▸ Sp.cbCells HS.out (i := 2) rfl k HKX.out).2.1), ((HOA.out ▸ Sp.cbCells HS.out (i := 2) rfl k HKX.out).2.2)⟩) (fun hHeld => ?_)
        clear hK K; (refine nm_ (some 6) ?_)
        refine o1_ 10 none (fun K hK => ?_)
        (refine skip_ (w1 := wB13.setCells gx 0 (#[.int .i64 (addC c si).f0, .int .i64 (addC c si).f1, .int .i64 (addC c si).f2] : Array Value).toList) (by rfl) rfl (exec_store (v := .pointer (some ⟨gx, 0, none⟩)) (u := .agg #[.int .i64 (addC c si).f0, .int .i64 (addC c si).f1, .int .i64 (addC c si).f2]) rfl (by first | rfl | (go_simp; done) | (go_simp; rfl)) (by first | rfl | (go_simp; done) | (go_simp; rfl)) (Sp.blkStore HS.out (i := 0) rfl (.agg #[.int .i64 (addC c si).f0, .int .i64 (addC c si).f1, .int .i64 (addC c si).f2]) (#[.int .i64 (addC c si).f0, .int .i64 (addC c si).f1, .int .i64 (addC c si).f2]) rfl rfl (by kernel_rfl) (by first | (simp; done) | (simp [Value.oneCell']; done) | (simp; exact ⟨rfl, rfl, rfl⟩)))) ?_); (obtain ⟨wS14, hw_⟩ : ∃ w_, w_ = wB13.setCells gx 0 (#[.int .i64 (addC c si).f0, .int .i64 (addC c si).f1, .int .i64 (addC c si).f2] : Array Value).toList := ⟨_, rfl⟩); (rw [← hw_]); (have HS_ := A0_ (Sp.blkAll HS.out (i := 0) rfl (#[.int .i64 (addC c si).f0, .int .i64 (addC c si).f1, .int .i64 (addC c si).f2]) rfl)); (rw [← hw_] at HS_); clear HS; (have HS := HS_); clear HS_ hw_
        refine hK.out _ _ (⟨((HOA.out ▸ Sp.cbCells HS.out (i := 2) rfl k HKX.out).1), ((HOA.out ▸ Sp.cbCells HS.out (i := 2) rfl k HKX.out).2.1), ((HOA.out ▸ Sp.cbCells HS.out (i := 2) rfl k HKX.out).2.2)⟩) (fun hHeld => ?_)
        clear hK K; (refine dn_ ?_); (replace HS := A0_ (Sp.arr (pre := [Res.blk gx #[.int .i64 (addC c si).f0, .int .i64 (addC c si).f1, .int .i64 (addC c si).f2] 94, Res.row kC 94 w.heap.size (.slice (some ads) (stepsC).length cA11) (stepsC), Res.row kC 94 w.heap.size (.slice (some ado) (expI l0 o c i).length ca) (expI l0 o c i)]) (pre' := [Res.blk gx #[.int .i64 (addC c si).f0, .int .i64 (addC c si).f1, .int .i64 (addC c si).f2] 94, Res.row kC 94 w.heap.size (.slice (some ado) (expI l0 o c i).length ca) (expI l0 o c i), Res.row kC 94 w.heap.size (.slice (some ads) (stepsC).length cA11) (stepsC)]) (rest := ([] : List Res)) [0, 2, 1] HS.out rfl rfl)); (rw [show addC c si = x from hx.symm] at HS); (have HX6 := A0_ hx); clear hx; (have hx0 := (cl_ HS 0 0 rfl).trans rfl); (have hx1 := (cl_ HS 0 1 rfl).trans rfl); (have hx2 := (cl_ HS 0 2 rfl).trans rfl); (obtain ⟨Ka, ra, ha, hKa⟩ := HIX.out l0 x HZ.out.2); (have HKA := A0_ hKa)
        cases c1 : l0.contains x with
        | false =>
         (rw [c1] at ha); (have n0_ : decide (0 ≤ ra) = false := ha); (have n1_ : (0 ≤ ra) = False := eq_false (of_decide_eq_false ha)); (have HN := A0_ (show expI l0 o c (i + 1) = expI l0 o c i by rw [HES.out, ← HX6.out]; unfold addO; rw [c1, Bool.false_and, if_neg (by simp)])); clear c1 ha
         go_wp2_with (first
          | (go_at_call 110; refine (spec_l09Index.calls Ka (some ad0) c0 l0 x.f0 x.f1 x.f2 ra _ (Kd.C_below HR0.out HS.out.below) HC0.out HKA.out).mono ?_; rintro e wc_ ⟨rfl, hd_⟩; replace HS := A0_ (Sp.far HS.out hd_); clear hd_ hx0 hx1 hx2 HKA; have hx0 := (cl_ HS 0 0 rfl).trans rfl; have hx1 := (cl_ HS 0 1 rfl).trans rfl; have hx2 := (cl_ HS 0 2 rfl).trans rfl))
         (replace HS := A0_ (show Sp w [Res.row kC 94 w.heap.size (.slice (some ado) (expI l0 o c i).length ca) (expI l0 o c i)] _ from Sp.tail (Sp.out HS.out 2))); (go_roundg k2)
         case measure => omega
         case rel =>
          (rw [HWI.out]); (exact ⟨i + 1, some ado, ca, rfl, by rw [HN.out], ⟨by have := HI6.out; omega, by have := HY.out; omega⟩, ⟨by rw [HN.out]; exact HS.out⟩⟩)
        | true =>
         (rw [c1] at ha); (have n0_ : decide (0 ≤ ra) = true := ha); (have n1_ : (0 ≤ ra) = True := eq_true (of_decide_eq_true ha)); (obtain ⟨Kb, rb, hb, hKb⟩ := HIX.out (expI l0 o c i) x (by have := HFI.out.len; have := HZ.out.2; omega)); (have HKB := A0_ hKb); clear ha hKb
         cases c2 : (expI l0 o c i).contains x with
         | true =>
          (rw [c2] at hb); (have m0_ : decide (rb < 0) = false := decide_eq_false (by have := of_decide_eq_true hb; omega)); (have m1_ : (rb < 0) = False := eq_false (by have := of_decide_eq_true hb; omega)); (have HN := A0_ (show expI l0 o c (i + 1) = expI l0 o c i by rw [HES.out, ← HX6.out]; unfold addO; rw [c1, c2, Bool.not_true, Bool.and_false, if_neg (by simp)])); clear c1 c2 hb
          go_wp2_with (first
           | (go_at_call 110; refine (spec_l09Index.calls Ka (some ad0) c0 l0 x.f0 x.f1 x.f2 ra _ (Kd.C_below HR0.out HS.out.below) HC0.out HKA.out).mono ?_; rintro e wc_ ⟨rfl, hd_⟩; replace HS := A0_ (Sp.far HS.out hd_); clear hd_ hx0 hx1 hx2 HKA; have hx0 := (cl_ HS 0 0 rfl).trans rfl; have hx1 := (cl_ HS 0 1 rfl).trans rfl; have hx2 := (cl_ HS 0 2 rfl).trans rfl)
           | (go_at_call 110; refine (spec_l09Index.calls Kb (some ado) ca (expI l0 o c i) x.f0 x.f1 x.f2 rb _ (Sp.reads HS.out (i := 1) rfl).2.2 (Sp.reads HS.out (i := 1) rfl).2.1 HKB.out).mono ?_; rintro e wc_ ⟨rfl, hd_⟩; replace HS := A0_ (Sp.far HS.out hd_); clear hd_ hx0 hx1 hx2 HKB; have hx0 := (cl_ HS 0 0 rfl).trans rfl; have hx1 := (cl_ HS 0 1 rfl).trans rfl; have hx2 := (cl_ HS 0 2 rfl).trans rfl))
          (replace HS := A0_ (show Sp w [Res.row kC 94 w.heap.size (.slice (some ado) (expI l0 o c i).length ca) (expI l0 o c i)] _ from Sp.tail (Sp.out HS.out 2))); (go_roundg k2)
          case measure => omega
          case rel =>
           (rw [HWI.out]); (exact ⟨i + 1, some ado, ca, rfl, by rw [HN.out], ⟨by have := HI6.out; omega, by have := HY.out; omega⟩, ⟨by rw [HN.out]; exact HS.out⟩⟩)
         | false =>
          (rw [c2] at hb); (have m0_ : decide (rb < 0) = true := decide_eq_true (by have := of_decide_eq_false hb; omega)); (have m1_ : (rb < 0) = True := eq_true (by have := of_decide_eq_false hb; omega)); (have HN := A0_ (show expI l0 o c (i + 1) = expI l0 o c i ++ [x] by rw [HES.out, ← HX6.out]; unfold addO; rw [c1, c2, Bool.not_false, Bool.and_true, if_pos rfl])); clear c1 c2 hb; (replace HS := A0_ (show Sp w [Res.blk gx #[.int .i64 x.f0, .int .i64 x.f1, .int .i64 x.f2] 94, Res.row kC 94 w.heap.size (.slice (some ado) (expI l0 o c i).length ca) (expI l0 o c i)] _ from Sp.out HS.out 2))
          go_wp2_with (first
           | (go_at_call 110; refine (spec_l09Index.calls Ka (some ad0) c0 l0 x.f0 x.f1 x.f2 ra _ (Kd.C_below HR0.out HS.out.below) HC0.out HKA.out).mono ?_; rintro e wc_ ⟨rfl, hd_⟩; replace HS := A0_ (Sp.far HS.out hd_); clear hd_ hx0 hx1 hx2 HKA; have hx0 := (cl_ HS 0 0 rfl).trans rfl; have hx1 := (cl_ HS 0 1 rfl).trans rfl; have hx2 := (cl_ HS 0 2 rfl).trans rfl)
           | (go_at_call 110; refine (spec_l09Index.calls Kb (some ado) ca (expI l0 o c i) x.f0 x.f1 x.f2 rb _ (Sp.reads HS.out (i := 1) rfl).2.2 (Sp.reads HS.out (i := 1) rfl).2.1 HKB.out).mono ?_; rintro e wc_ ⟨rfl, hd_⟩; replace HS := A0_ (Sp.far HS.out hd_); clear hd_ hx0 hx1 hx2 HKB; have hx0 := (cl_ HS 0 0 rfl).trans rfl; have hx1 := (cl_ HS 0 1 rfl).trans rfl; have hx2 := (cl_ HS 0 2 rfl).trans rfl)
           | ((with_reducible refine gate_dst (N := 42) rfl ?_); refine Kd.R_lit kC _ 94 ?hg (N := 42) ?hd (xs := [x]) (inner := [.int .i64 x.f0, .int .i64 x.f1, .int .i64 x.f2]) (ok := fun _ => True) (okp := fun _ => True) ?hr ?hp (fun _ hk => hk) trivial (Below.refl _ _) (Nat.le_refl _) (by simp) ?_; (case hd => rfl); (case hg => rfl); (case hr => first | (go_simp; done) | (go_simp; rfl)); (case hp => exact (Reps.c3 (show Kd.M kC _ _ _ x [.int .i64 x.f0, .int .i64 x.f1, .int .i64 x.f2] from k94_mkM _ _ _ x) (Reps.none _ _))); intro vl_ wl_ ho_ hb_ hg_ hn_; clear hg_ hn_; replace HS := A0_ (Sp.made' HS.out hb_ ho_); clear ho_ hb_; obtain ⟨Ax, cx, ev_⟩ := Sp.slice HS.out (i := 0) rfl; subst ev_; clear hx0 hx1 hx2)
           | ((with_reducible refine gate_builtin (b := .append) (xs := #[.tmp 40, .tmp 42]) rfl ?_); at_builtin; obtain ⟨fp_, ho_, hf_, hc_⟩ := Sp.row HS.out (i := 2) rfl; refine Kd.R_append_rows kC (w0 := w) w.heap.size rfl (.tmp 40) (.tmp 42) 35 94 ((.agg #[(.int .i64 0), (.int .i64 0), (.int .i64 0)])) 24 rfl Try.underlying35 info94 rfl (by decide) (by omega) (.slice (some ado) (expI l0 o c i).length ca) (expI l0 o c i) ([x]) _ _ _ _ (fun _ => False) rfl rfl ho_ ((Sp.reads HS.out (i := 0) rfl).2.2) (fun _ _ h => h) (fun _ h => h.elim) (fun _ h => Or.inr h) HS.out.below HS.out.below.size ?aL ?_; (case aL => have := HFI.out.len; have := HZ.out.2; simp only [List.length_cons, List.length_nil]; omega); intro va_ wa_ ho hb hg hat; replace HS := A0_ (hc_ _ _ _ ho hg); clear ho hb hg hat hc_ hf_ ho_ fp_; obtain ⟨A2, c2_, ev_⟩ := Sp.slice HS.out (i := 2) rfl; subst ev_; rw [← HN.out] at HS))
          (replace HS := A0_ (show Sp w [Res.row kC 94 w.heap.size (.slice A2 (expI l0 o c (i + 1)).length c2_) (expI l0 o c (i + 1))] _ from Sp.tail (Sp.tail HS.out))); (go_roundg k2)
          case measure => omega
          case rel =>
           (rw [HWI.out]); (exact ⟨i + 1, A2, c2_, rfl, by rw [HN.out, List.length_append]; rfl, ⟨by have := HI6.out; omega, by have := HY.out; omega⟩, HS⟩)
       ·(refine event_step (v := .pointer (some ⟨wA11.heap.size, 0, none⟩)) (w1 := wA11.alloc (.cells #[.int .i64 0, .int .i64 0, .int .i64 0] 94)) (by rfl) (by first | (go_simp; done) | (go_simp; rfl)) ?_); (obtain ⟨gx, hg_⟩ : ∃ g_, g_ = (wA11).heap.size := ⟨_, rfl⟩); (obtain ⟨wB12, hw_⟩ : ∃ w_, w_ = World.alloc wA11 (.cells #[.int .i64 0, .int .i64 0, .int .i64 0] 94) := ⟨_, rfl⟩); (rw [← hw_, ← hg_]); (have HS_ := A0_ (Sp.box HS.out #[.int .i64 0, .int .i64 0, .int .i64 0] 94)); (rw [← hw_, ← hg_] at HS_); clear HS; (have HS := HS_); clear HS_ hw_ hg_
        refine hK.out _ _ (⟨((HOA.out ▸ Sp.cbCells HS.out (i := 2) rfl k HKX.out).1), ((HOA.out ▸ Sp.cbCells HS.out (i := 2) rfl k HKX.out).2.1), ((HOA.out ▸ Sp.cbCells HS.out (i := 2) rfl k HKX.out).2.2)⟩) (fun hHeld => ?_)
        clear hK K; (refine nm_ (some 6) ?_)
        refine o1_ 8 (some 29) (fun K hK => ?_)
        (refine gs_ Try.func89 #[.agg #[.int .i64 c.f0, .int .i64 c.f1, .int .i64 c.f2], .agg #[.int .i64 si.f0, .int .i64 si.f1, .int .i64 si.f2]] ?_); (refine (spec_l09Add.calls c.f0 c.f1 c.f2 si.f0 si.f1 si.f2 (addC c si).f0 (addC c si).f1 (addC c si).f2 _ rfl).mono ?_); (rintro e wA13 ⟨rfl, hb⟩); (refine ⟨_, rfl, ?_⟩); (replace HS := A0_ (Sp.far HS.out hb)); clear hb
        refine hK.out _ _ (⟨((HOA.out ▸ Sp.cbCells HS.out (i := 2) rfl k HKX.out).1), ((HOA.out ▸ Sp.cbCells HS.out (i := 2) rfl k HKX.out).2.1), ((HOA.out ▸ Sp.cbCells HS.out (i := 2) rfl k HKX.out).2.2)⟩) (fun hHeld => ?_)
        clear hK K; (refine nm_ (some 29) ?_)
        refine o1_ 10 none (fun K hK => ?_)
        (refine skip_ (w1 := wA13.setCells gx 0 (#[.int .i64 (addC c si).f0, .int .i64 (addC c si).f1, .int .i64 (addC c si).f2] : Array Value).toList) (by rfl) rfl (exec_store (v := .pointer (some ⟨gx, 0, none⟩)) (u := .agg #[.int .i64 (addC c si).f0, .int .i64 (addC c si).f1, .int .i64 (addC c si).f2]) rfl (by first | rfl | (go_simp; done) | (go_simp; rfl)) (by first | rfl | (go_simp; done) | (go_simp; rfl)) (Sp.blkStore HS.out (i := 0) rfl (.agg #[.int .i64 (addC c si).f0, .int .i64 (addC c si).f1, .int .i64 (addC c si).f2]) (#[.int .i64 (addC c si).f0, .int .i64 (addC c si).f1, .int .i64 (addC c si).f2]) rfl rfl (by kernel_rfl) (by first | (simp; done) | (simp [Value.oneCell']; done) | (simp; exact ⟨rfl, rfl, rfl⟩)))) ?_); (obtain ⟨wS14, hw_⟩ : ∃ w_, w_ = wA13.setCells gx 0 (#[.int .i64 (addC c si).f0, .int .i64 (addC c si).f1, .int .i64 (addC c si).f2] : Array Value).toList := ⟨_, rfl⟩); (rw [← hw_]); (have HS_ := A0_ (Sp.blkAll HS.out (i := 0) rfl (#[.int .i64 (addC c si).f0, .int .i64 (addC c si).f1, .int .i64 (addC c si).f2]) rfl)); (rw [← hw_] at HS_); clear HS; (have HS := HS_); clear HS_ hw_
        refine hK.out _ _ (⟨((HOA.out ▸ Sp.cbCells HS.out (i := 2) rfl k HKX.out).1), ((HOA.out ▸ Sp.cbCells HS.out (i := 2) rfl k HKX.out).2.1), ((HOA.out ▸ Sp.cbCells HS.out (i := 2) rfl k HKX.out).2.2)⟩) (fun hHeld => ?_)
        clear hK K; (refine dn_ ?_); (replace HS := A0_ (Sp.arr (pre := [Res.blk gx #[.int .i64 (addC c si).f0, .int .i64 (addC c si).f1, .int .i64 (addC c si).f2] 94, Res.row kC 94 w.heap.size (.slice (some ads) (stepsC).length cA11) (stepsC), Res.row kC 94 w.heap.size (.slice (some ado) (expI l0 o c i).length ca) (expI l0 o c i)]) (pre' := [Res.blk gx #[.int .i64 (addC c si).f0, .int .i64 (addC c si).f1, .int .i64 (addC c si).f2] 94, Res.row kC 94 w.heap.size (.slice (some ado) (expI l0 o c i).length ca) (expI l0 o c i), Res.row kC 94 w.heap.size (.slice (some ads) (stepsC).length cA11) (stepsC)]) (rest := ([] : List Res)) [0, 2, 1] HS.out rfl rfl)); (rw [show addC c si = x from hx.symm] at HS); (have HX6 := A0_ hx); clear hx; (have hx0 := (cl_ HS 0 0 rfl).trans rfl); (have hx1 := (cl_ HS 0 1 rfl).trans rfl); (have hx2 := (cl_ HS 0 2 rfl).trans rfl); (obtain ⟨Ka, ra, ha, hKa⟩ := HIX.out l0 x HZ.out.2); (have HKA := A0_ hKa)
        cases c1 : l0.contains x with
        | false =>
         (rw [c1] at ha); (have n0_ : decide (0 ≤ ra) = false := ha); (have n1_ : (0 ≤ ra) = False := eq_false (of_decide_eq_false ha)); (have HN := A0_ (show expI l0 o c (i + 1) = expI l0 o c i by rw [HES.out, ← HX6.out]; unfold addO; rw [c1, Bool.false_and, if_neg (by simp)])); clear c1 ha
         go_wp2_with (first
          | (go_at_call 110; refine (spec_l09Index.calls Ka (some ad0) c0 l0 x.f0 x.f1 x.f2 ra _ (Kd.C_below HR0.out HS.out.below) HC0.out HKA.out).mono ?_; rintro e wc_ ⟨rfl, hd_⟩; replace HS := A0_ (Sp.far HS.out hd_); clear hd_ hx0 hx1 hx2 HKA; have hx0 := (cl_ HS 0 0 rfl).trans rfl; have hx1 := (cl_ HS 0 1 rfl).trans rfl; have hx2 := (cl_ HS 0 2 rfl).trans rfl))
         (replace HS := A0_ (show Sp w [Res.row kC 94 w.heap.size (.slice (some ado) (expI l0 o c i).length ca) (expI l0 o c i)] _ from Sp.tail (Sp.out HS.out 2))); (go_roundg k2)
         case measure => omega
         case rel =>
          (rw [HWI.out]); (exact ⟨i + 1, some ado, ca, rfl, by rw [HN.out], ⟨by have := HI6.out; omega, by have := HY.out; omega⟩, ⟨by rw [HN.out]; exact HS.out⟩⟩)
        | true =>
         (rw [c1] at ha); (have n0_ : decide (0 ≤ ra) = true := ha); (have n1_ : (0 ≤ ra) = True := eq_true (of_decide_eq_true ha)); (obtain ⟨Kb, rb, hb, hKb⟩ := HIX.out (expI l0 o c i) x (by have := HFI.out.len; have := HZ.out.2; omega)); (have HKB := A0_ hKb); clear ha hKb
         cases c2 : (expI l0 o c i).contains x with
         | true =>
          (rw [c2] at hb); (have m0_ : decide (rb < 0) = false := decide_eq_false (by have := of_decide_eq_true hb; omega)); (have m1_ : (rb < 0) = False := eq_false (by have := of_decide_eq_true hb; omega)); (have HN := A0_ (show expI l0 o c (i + 1) = expI l0 o c i by rw [HES.out, ← HX6.out]; unfold addO; rw [c1, c2, Bool.not_true, Bool.and_false, if_neg (by simp)])); clear c1 c2 hb
          go_wp2_with (first
           | (go_at_call 110; refine (spec_l09Index.calls Ka (some ad0) c0 l0 x.f0 x.f1 x.f2 ra _ (Kd.C_below HR0.out HS.out.below) HC0.out HKA.out).mono ?_; rintro e wc_ ⟨rfl, hd_⟩; replace HS := A0_ (Sp.far HS.out hd_); clear hd_ hx0 hx1 hx2 HKA; have hx0 := (cl_ HS 0 0 rfl).trans rfl; have hx1 := (cl_ HS 0 1 rfl).trans rfl; have hx2 := (cl_ HS 0 2 rfl).trans rfl)
           | (go_at_call 110; refine (spec_l09Index.calls Kb (some ado) ca (expI l0 o c i) x.f0 x.f1 x.f2 rb _ (Sp.reads HS.out (i := 1) rfl).2.2 (Sp.reads HS.out (i := 1) rfl).2.1 HKB.out).mono ?_; rintro e wc_ ⟨rfl, hd_⟩; replace HS := A0_ (Sp.far HS.out hd_); clear hd_ hx0 hx1 hx2 HKB; have hx0 := (cl_ HS 0 0 rfl).trans rfl; have hx1 := (cl_ HS 0 1 rfl).trans rfl; have hx2 := (cl_ HS 0 2 rfl).trans rfl))
          (replace HS := A0_ (show Sp w [Res.row kC 94 w.heap.size (.slice (some ado) (expI l0 o c i).length ca) (expI l0 o c i)] _ from Sp.tail (Sp.out HS.out 2))); (go_roundg k2)
          case measure => omega
          case rel =>
           (rw [HWI.out]); (exact ⟨i + 1, some ado, ca, rfl, by rw [HN.out], ⟨by have := HI6.out; omega, by have := HY.out; omega⟩, ⟨by rw [HN.out]; exact HS.out⟩⟩)
         | false =>
          (rw [c2] at hb); (have m0_ : decide (rb < 0) = true := decide_eq_true (by have := of_decide_eq_false hb; omega)); (have m1_ : (rb < 0) = True := eq_true (by have := of_decide_eq_false hb; omega)); (have HN := A0_ (show expI l0 o c (i + 1) = expI l0 o c i ++ [x] by rw [HES.out, ← HX6.out]; unfold addO; rw [c1, c2, Bool.not_false, Bool.and_true, if_pos rfl])); clear c1 c2 hb; (replace HS := A0_ (show Sp w [Res.blk gx #[.int .i64 x.f0, .int .i64 x.f1, .int .i64 x.f2] 94, Res.row kC 94 w.heap.size (.slice (some ado) (expI l0 o c i).length ca) (expI l0 o c i)] _ from Sp.out HS.out 2))
          go_wp2_with (first
           | (go_at_call 110; refine (spec_l09Index.calls Ka (some ad0) c0 l0 x.f0 x.f1 x.f2 ra _ (Kd.C_below HR0.out HS.out.below) HC0.out HKA.out).mono ?_; rintro e wc_ ⟨rfl, hd_⟩; replace HS := A0_ (Sp.far HS.out hd_); clear hd_ hx0 hx1 hx2 HKA; have hx0 := (cl_ HS 0 0 rfl).trans rfl; have hx1 := (cl_ HS 0 1 rfl).trans rfl; have hx2 := (cl_ HS 0 2 rfl).trans rfl)
           | (go_at_call 110; refine (spec_l09Index.calls Kb (some ado) ca (expI l0 o c i) x.f0 x.f1 x.f2 rb _ (Sp.reads HS.out (i := 1) rfl).2.2 (Sp.reads HS.out (i := 1) rfl).2.1 HKB.out).mono ?_; rintro e wc_ ⟨rfl, hd_⟩; replace HS := A0_ (Sp.far HS.out hd_); clear hd_ hx0 hx1 hx2 HKB; have hx0 := (cl_ HS 0 0 rfl).trans rfl; have hx1 := (cl_ HS 0 1 rfl).trans rfl; have hx2 := (cl_ HS 0 2 rfl).trans rfl)
           | ((with_reducible refine gate_dst (N := 42) rfl ?_); refine Kd.R_lit kC _ 94 ?hg (N := 42) ?hd (xs := [x]) (inner := [.int .i64 x.f0, .int .i64 x.f1, .int .i64 x.f2]) (ok := fun _ => True) (okp := fun _ => True) ?hr ?hp (fun _ hk => hk) trivial (Below.refl _ _) (Nat.le_refl _) (by simp) ?_; (case hd => rfl); (case hg => rfl); (case hr => first | (go_simp; done) | (go_simp; rfl)); (case hp => exact (Reps.c3 (show Kd.M kC _ _ _ x [.int .i64 x.f0, .int .i64 x.f1, .int .i64 x.f2] from k94_mkM _ _ _ x) (Reps.none _ _))); intro vl_ wl_ ho_ hb_ hg_ hn_; clear hg_ hn_; replace HS := A0_ (Sp.made' HS.out hb_ ho_); clear ho_ hb_; obtain ⟨Ax, cx, ev_⟩ := Sp.slice HS.out (i := 0) rfl; subst ev_; clear hx0 hx1 hx2)
           | ((with_reducible refine gate_builtin (b := .append) (xs := #[.tmp 40, .tmp 42]) rfl ?_); at_builtin; obtain ⟨fp_, ho_, hf_, hc_⟩ := Sp.row HS.out (i := 2) rfl; refine Kd.R_append_rows kC (w0 := w) w.heap.size rfl (.tmp 40) (.tmp 42) 35 94 ((.agg #[(.int .i64 0), (.int .i64 0), (.int .i64 0)])) 24 rfl Try.underlying35 info94 rfl (by decide) (by omega) (.slice (some ado) (expI l0 o c i).length ca) (expI l0 o c i) ([x]) _ _ _ _ (fun _ => False) rfl rfl ho_ ((Sp.reads HS.out (i := 0) rfl).2.2) (fun _ _ h => h) (fun _ h => h.elim) (fun _ h => Or.inr h) HS.out.below HS.out.below.size ?aL ?_; (case aL => have := HFI.out.len; have := HZ.out.2; simp only [List.length_cons, List.length_nil]; omega); intro va_ wa_ ho hb hg hat; replace HS := A0_ (hc_ _ _ _ ho hg); clear ho hb hg hat hc_ hf_ ho_ fp_; obtain ⟨A2, c2_, ev_⟩ := Sp.slice HS.out (i := 2) rfl; subst ev_; rw [← HN.out] at HS))
          (replace HS := A0_ (show Sp w [Res.row kC 94 w.heap.size (.slice A2 (expI l0 o c (i + 1)).length c2_) (expI l0 o c (i + 1))] _ from Sp.tail (Sp.tail HS.out))); (go_roundg k2)
          case measure => omega
          case rel =>
           (rw [HWI.out]); (exact ⟨i + 1, A2, c2_, rfl, by rw [HN.out, List.length_append]; rfl, ⟨by have := HI6.out; omega, by have := HY.out; omega⟩, HS⟩)
      ·(refine event_step (v := .pointer (some ⟨wA11.heap.size, 0, none⟩)) (w1 := wA11.alloc (.cells #[.int .i64 0, .int .i64 0, .int .i64 0] 94)) (by rfl) (by first | (go_simp; done) | (go_simp; rfl)) ?_); (obtain ⟨gx, hg_⟩ : ∃ g_, g_ = (wA11).heap.size := ⟨_, rfl⟩); (obtain ⟨wB12, hw_⟩ : ∃ w_, w_ = World.alloc wA11 (.cells #[.int .i64 0, .int .i64 0, .int .i64 0] 94) := ⟨_, rfl⟩); (rw [← hw_, ← hg_]); (have HS_ := A0_ (Sp.box HS.out #[.int .i64 0, .int .i64 0, .int .i64 0] 94)); (rw [← hw_, ← hg_] at HS_); clear HS; (have HS := HS_); clear HS_ hw_ hg_
       refine hK.out _ _ (⟨((HOA.out ▸ Sp.cbCells HS.out (i := 2) rfl k HKX.out).1), ((HOA.out ▸ Sp.cbCells HS.out (i := 2) rfl k HKX.out).2.1), ((HOA.out ▸ Sp.cbCells HS.out (i := 2) rfl k HKX.out).2.2)⟩) (fun hHeld => ?_)
       clear hK K; (refine nm_ (some 6) ?_)
       refine o1_ 7 (some 28) (fun K hK => ?_)
       (obtain ⟨hs0, hs1, hs2⟩ := Sp.cbCells HS.out (i := 1) rfl i HI6.out); (rw [HSI0.out] at hs0 hs1 hs2); (refine event_step (v := .agg #[.int .i64 si.f0, .int .i64 si.f1, .int .i64 si.f2]) (w1 := wB12) (by rfl) (by first | (go_simp; done) | (go_simp; rfl)) ?_); clear hs0 hs1 hs2
       refine hK.out _ _ (⟨((HOA.out ▸ Sp.cbCells HS.out (i := 2) rfl k HKX.out).1), ((HOA.out ▸ Sp.cbCells HS.out (i := 2) rfl k HKX.out).2.1), ((HOA.out ▸ Sp.cbCells HS.out (i := 2) rfl k HKX.out).2.2)⟩) (fun hHeld => ?_)
       clear hK K; (refine nm_ (some 28) ?_)
       refine o1_ 8 (some 29) (fun K hK => ?_)
       (refine gs_ Try.func89 #[.agg #[.int .i64 c.f0, .int .i64 c.f1, .int .i64 c.f2], .agg #[.int .i64 si.f0, .int .i64 si.f1, .int .i64 si.f2]] ?_); (refine (spec_l09Add.calls c.f0 c.f1 c.f2 si.f0 si.f1 si.f2 (addC c si).f0 (addC c si).f1 (addC c si).f2 _ rfl).mono ?_); (rintro e wA13 ⟨rfl, hb⟩); (refine ⟨_, rfl, ?_⟩); (replace HS := A0_ (Sp.far HS.out hb)); clear hb
       refine hK.out _ _ (⟨((HOA.out ▸ Sp.cbCells HS.out (i := 2) rfl k HKX.out).1), ((HOA.out ▸ Sp.cbCells HS.out (i := 2) rfl k HKX.out).2.1), ((HOA.out ▸ Sp.cbCells HS.out (i := 2) rfl k HKX.out).2.2)⟩) (fun hHeld => ?_)
       clear hK K; (refine nm_ (some 29) ?_)
       refine o1_ 10 none (fun K hK => ?_)
       (refine skip_ (w1 := wA13.setCells gx 0 (#[.int .i64 (addC c si).f0, .int .i64 (addC c si).f1, .int .i64 (addC c si).f2] : Array Value).toList) (by rfl) rfl (exec_store (v := .pointer (some ⟨gx, 0, none⟩)) (u := .agg #[.int .i64 (addC c si).f0, .int .i64 (addC c si).f1, .int .i64 (addC c si).f2]) rfl (by first | rfl | (go_simp; done) | (go_simp; rfl)) (by first | rfl | (go_simp; done) | (go_simp; rfl)) (Sp.blkStore HS.out (i := 0) rfl (.agg #[.int .i64 (addC c si).f0, .int .i64 (addC c si).f1, .int .i64 (addC c si).f2]) (#[.int .i64 (addC c si).f0, .int .i64 (addC c si).f1, .int .i64 (addC c si).f2]) rfl rfl (by kernel_rfl) (by first | (simp; done) | (simp [Value.oneCell']; done) | (simp; exact ⟨rfl, rfl, rfl⟩)))) ?_); (obtain ⟨wS14, hw_⟩ : ∃ w_, w_ = wA13.setCells gx 0 (#[.int .i64 (addC c si).f0, .int .i64 (addC c si).f1, .int .i64 (addC c si).f2] : Array Value).toList := ⟨_, rfl⟩); (rw [← hw_]); (have HS_ := A0_ (Sp.blkAll HS.out (i := 0) rfl (#[.int .i64 (addC c si).f0, .int .i64 (addC c si).f1, .int .i64 (addC c si).f2]) rfl)); (rw [← hw_] at HS_); clear HS; (have HS := HS_); clear HS_ hw_
       refine hK.out _ _ (⟨((HOA.out ▸ Sp.cbCells HS.out (i := 2) rfl k HKX.out).1), ((HOA.out ▸ Sp.cbCells HS.out (i := 2) rfl k HKX.out).2.1), ((HOA.out ▸ Sp.cbCells HS.out (i := 2) rfl k HKX.out).2.2)⟩) (fun hHeld => ?_)
       clear hK K; (refine dn_ ?_); (replace HS := A0_ (Sp.arr (pre := [Res.blk gx #[.int .i64 (addC c si).f0, .int .i64 (addC c si).f1, .int .i64 (addC c si).f2] 94, Res.row kC 94 w.heap.size (.slice (some ads) (stepsC).length cA11) (stepsC), Res.row kC 94 w.heap.size (.slice (some ado) (expI l0 o c i).length ca) (expI l0 o c i)]) (pre' := [Res.blk gx #[.int .i64 (addC c si).f0, .int .i64 (addC c si).f1, .int .i64 (addC c si).f2] 94, Res.row kC 94 w.heap.size (.slice (some ado) (expI l0 o c i).length ca) (expI l0 o c i), Res.row kC 94 w.heap.size (.slice (some ads) (stepsC).length cA11) (stepsC)]) (rest := ([] : List Res)) [0, 2, 1] HS.out rfl rfl)); (rw [show addC c si = x from hx.symm] at HS); (have HX6 := A0_ hx); clear hx; (have hx0 := (cl_ HS 0 0 rfl).trans rfl); (have hx1 := (cl_ HS 0 1 rfl).trans rfl); (have hx2 := (cl_ HS 0 2 rfl).trans rfl); (obtain ⟨Ka, ra, ha, hKa⟩ := HIX.out l0 x HZ.out.2); (have HKA := A0_ hKa)
       cases c1 : l0.contains x with
       | false =>
        (rw [c1] at ha); (have n0_ : decide (0 ≤ ra) = false := ha); (have n1_ : (0 ≤ ra) = False := eq_false (of_decide_eq_false ha)); (have HN := A0_ (show expI l0 o c (i + 1) = expI l0 o c i by rw [HES.out, ← HX6.out]; unfold addO; rw [c1, Bool.false_and, if_neg (by simp)])); clear c1 ha
        go_wp2_with (first
         | (go_at_call 110; refine (spec_l09Index.calls Ka (some ad0) c0 l0 x.f0 x.f1 x.f2 ra _ (Kd.C_below HR0.out HS.out.below) HC0.out HKA.out).mono ?_; rintro e wc_ ⟨rfl, hd_⟩; replace HS := A0_ (Sp.far HS.out hd_); clear hd_ hx0 hx1 hx2 HKA; have hx0 := (cl_ HS 0 0 rfl).trans rfl; have hx1 := (cl_ HS 0 1 rfl).trans rfl; have hx2 := (cl_ HS 0 2 rfl).trans rfl))
        (replace HS := A0_ (show Sp w [Res.row kC 94 w.heap.size (.slice (some ado) (expI l0 o c i).length ca) (expI l0 o c i)] _ from Sp.tail (Sp.out HS.out 2))); (go_roundg k2)
        case measure => omega
        case rel =>
         (rw [HWI.out]); (exact ⟨i + 1, some ado, ca, rfl, by rw [HN.out], ⟨by have := HI6.out; omega, by have := HY.out; omega⟩, ⟨by rw [HN.out]; exact HS.out⟩⟩)
       | true =>
        (rw [c1] at ha); (have n0_ : decide (0 ≤ ra) = true := ha); (have n1_ : (0 ≤ ra) = True := eq_true (of_decide_eq_true ha)); (obtain ⟨Kb, rb, hb, hKb⟩ := HIX.out (expI l0 o c i) x (by have := HFI.out.len; have := HZ.out.2; omega)); (have HKB := A0_ hKb); clear ha hKb
        cases c2 : (expI l0 o c i).contains x with
        | true =>
         (rw [c2] at hb); (have m0_ : decide (rb < 0) = false := decide_eq_false (by have := of_decide_eq_true hb; omega)); (have m1_ : (rb < 0) = False := eq_false (by have := of_decide_eq_true hb; omega)); (have HN := A0_ (show expI l0 o c (i + 1) = expI l0 o c i by rw [HES.out, ← HX6.out]; unfold addO; rw [c1, c2, Bool.not_true, Bool.and_false, if_neg (by simp)])); clear c1 c2 hb
         go_wp2_with (first
          | (go_at_call 110; refine (spec_l09Index.calls Ka (some ad0) c0 l0 x.f0 x.f1 x.f2 ra _ (Kd.C_below HR0.out HS.out.below) HC0.out HKA.out).mono ?_; rintro e wc_ ⟨rfl, hd_⟩; replace HS := A0_ (Sp.far HS.out hd_); clear hd_ hx0 hx1 hx2 HKA; have hx0 := (cl_ HS 0 0 rfl).trans rfl; have hx1 := (cl_ HS 0 1 rfl).trans rfl; have hx2 := (cl_ HS 0 2 rfl).trans rfl)
          | (go_at_call 110; refine (spec_l09Index.calls Kb (some ado) ca (expI l0 o c i) x.f0 x.f1 x.f2 rb _ (Sp.reads HS.out (i := 1) rfl).2.2 (Sp.reads HS.out (i := 1) rfl).2.1 HKB.out).mono ?_; rintro e wc_ ⟨rfl, hd_⟩; replace HS := A0_ (Sp.far HS.out hd_); clear hd_ hx0 hx1 hx2 HKB; have hx0 := (cl_ HS 0 0 rfl).trans rfl; have hx1 := (cl_ HS 0 1 rfl).trans rfl; have hx2 := (cl_ HS 0 2 rfl).trans rfl))
         (replace HS := A0_ (show Sp w [Res.row kC 94 w.heap.size (.slice (some ado) (expI l0 o c i).length ca) (expI l0 o c i)] _ from Sp.tail (Sp.out HS.out 2))); (go_roundg k2)
         case measure => omega
         case rel =>
          (rw [HWI.out]); (exact ⟨i + 1, some ado, ca, rfl, by rw [HN.out], ⟨by have := HI6.out; omega, by have := HY.out; omega⟩, ⟨by rw [HN.out]; exact HS.out⟩⟩)
        | false =>
         (rw [c2] at hb); (have m0_ : decide (rb < 0) = true := decide_eq_true (by have := of_decide_eq_false hb; omega)); (have m1_ : (rb < 0) = True := eq_true (by have := of_decide_eq_false hb; omega)); (have HN := A0_ (show expI l0 o c (i + 1) = expI l0 o c i ++ [x] by rw [HES.out, ← HX6.out]; unfold addO; rw [c1, c2, Bool.not_false, Bool.and_true, if_pos rfl])); clear c1 c2 hb; (replace HS := A0_ (show Sp w [Res.blk gx #[.int .i64 x.f0, .int .i64 x.f1, .int .i64 x.f2] 94, Res.row kC 94 w.heap.size (.slice (some ado) (expI l0 o c i).length ca) (expI l0 o c i)] _ from Sp.out HS.out 2))
         go_wp2_with (first
          | (go_at_call 110; refine (spec_l09Index.calls Ka (some ad0) c0 l0 x.f0 x.f1 x.f2 ra _ (Kd.C_below HR0.out HS.out.below) HC0.out HKA.out).mono ?_; rintro e wc_ ⟨rfl, hd_⟩; replace HS := A0_ (Sp.far HS.out hd_); clear hd_ hx0 hx1 hx2 HKA; have hx0 := (cl_ HS 0 0 rfl).trans rfl; have hx1 := (cl_ HS 0 1 rfl).trans rfl; have hx2 := (cl_ HS 0 2 rfl).trans rfl)
          | (go_at_call 110; refine (spec_l09Index.calls Kb (some ado) ca (expI l0 o c i) x.f0 x.f1 x.f2 rb _ (Sp.reads HS.out (i := 1) rfl).2.2 (Sp.reads HS.out (i := 1) rfl).2.1 HKB.out).mono ?_; rintro e wc_ ⟨rfl, hd_⟩; replace HS := A0_ (Sp.far HS.out hd_); clear hd_ hx0 hx1 hx2 HKB; have hx0 := (cl_ HS 0 0 rfl).trans rfl; have hx1 := (cl_ HS 0 1 rfl).trans rfl; have hx2 := (cl_ HS 0 2 rfl).trans rfl)
          | ((with_reducible refine gate_dst (N := 42) rfl ?_); refine Kd.R_lit kC _ 94 ?hg (N := 42) ?hd (xs := [x]) (inner := [.int .i64 x.f0, .int .i64 x.f1, .int .i64 x.f2]) (ok := fun _ => True) (okp := fun _ => True) ?hr ?hp (fun _ hk => hk) trivial (Below.refl _ _) (Nat.le_refl _) (by simp) ?_; (case hd => rfl); (case hg => rfl); (case hr => first | (go_simp; done) | (go_simp; rfl)); (case hp => exact (Reps.c3 (show Kd.M kC _ _ _ x [.int .i64 x.f0, .int .i64 x.f1, .int .i64 x.f2] from k94_mkM _ _ _ x) (Reps.none _ _))); intro vl_ wl_ ho_ hb_ hg_ hn_; clear hg_ hn_; replace HS := A0_ (Sp.made' HS.out hb_ ho_); clear ho_ hb_; obtain ⟨Ax, cx, ev_⟩ := Sp.slice HS.out (i := 0) rfl; subst ev_; clear hx0 hx1 hx2)
          | ((with_reducible refine gate_builtin (b := .append) (xs := #[.tmp 40, .tmp 42]) rfl ?_); at_builtin; obtain ⟨fp_, ho_, hf_, hc_⟩ := Sp.row HS.out (i := 2) rfl; refine Kd.R_append_rows kC (w0 := w) w.heap.size rfl (.tmp 40) (.tmp 42) 35 94 ((.agg #[(.int .i64 0), (.int .i64 0), (.int .i64 0)])) 24 rfl Try.underlying35 info94 rfl (by decide) (by omega) (.slice (some ado) (expI l0 o c i).length ca) (expI l0 o c i) ([x]) _ _ _ _ (fun _ => False) rfl rfl ho_ ((Sp.reads HS.out (i := 0) rfl).2.2) (fun _ _ h => h) (fun _ h => h.elim) (fun _ h => Or.inr h) HS.out.below HS.out.below.size ?aL ?_; (case aL => have := HFI.out.len; have := HZ.out.2; simp only [List.length_cons, List.length_nil]; omega); intro va_ wa_ ho hb hg hat; replace HS := A0_ (hc_ _ _ _ ho hg); clear ho hb hg hat hc_ hf_ ho_ fp_; obtain ⟨A2, c2_, ev_⟩ := Sp.slice HS.out (i := 2) rfl; subst ev_; rw [← HN.out] at HS))
         (replace HS := A0_ (show Sp w [Res.row kC 94 w.heap.size (.slice A2 (expI l0 o c (i + 1)).length c2_) (expI l0 o c (i + 1))] _ from Sp.tail (Sp.tail HS.out))); (go_roundg k2)
         case measure => omega
         case rel =>
          (rw [HWI.out]); (exact ⟨i + 1, A2, c2_, rfl, by rw [HN.out, List.length_append]; rfl, ⟨by have := HI6.out; omega, by have := HY.out; omega⟩, HS⟩)
     ·(refine event_step (v := .pointer (some ⟨wD.heap.size, 0, none⟩)) (w1 := wD.alloc (.cells #[.int .i64 0, .int .i64 0, .int .i64 0] 94)) (by rfl) (by first | (go_simp; done) | (go_simp; rfl)) ?_); (obtain ⟨gx, hg_⟩ : ∃ g_, g_ = (wD).heap.size := ⟨_, rfl⟩); (obtain ⟨wB11, hw_⟩ : ∃ w_, w_ = World.alloc wD (.cells #[.int .i64 0, .int .i64 0, .int .i64 0] 94) := ⟨_, rfl⟩); (rw [← hw_, ← hg_]); (have HS_ := A0_ (Sp.box HS.out #[.int .i64 0, .int .i64 0, .int .i64 0] 94)); (rw [← hw_, ← hg_] at HS_); clear HS; (have HS := HS_); clear HS_ hw_ hg_
      refine hK.out _ _ (⟨((HOA.out ▸ Sp.cbCells HS.out (i := 1) rfl k HKX.out).1), ((HOA.out ▸ Sp.cbCells HS.out (i := 1) rfl k HKX.out).2.1), ((HOA.out ▸ Sp.cbCells HS.out (i := 1) rfl k HKX.out).2.2)⟩) (fun hHeld => ?_)
      clear hK K; (refine nm_ (some 6) ?_)
      refine o1_ 4 (some 25) (fun K hK => ?_)
      (refine gs_ Try.func95 #[] ?_); (refine (spec_l09Steps.calls stepsC _ rfl).mono ?_); (rintro e wA12 ⟨vA12, rfl, ho, hb⟩); (refine ⟨_, rfl, ?_⟩); (replace HS := A0_ (Sp.made' HS.out hb ho)); clear hb ho; (obtain ⟨AA12, cA12, rfl⟩ := Sp.slice HS.out (i := 0) rfl); (obtain ⟨ads, es_, _⟩ := at_T94 (Sp.reads HS.out (i := 0) rfl).2.2 (0 : Int) (by omega) (by decide)); subst es_
      refine hK.out _ _ (⟨((HOA.out ▸ Sp.cbCells HS.out (i := 2) rfl k HKX.out).1), ((HOA.out ▸ Sp.cbCells HS.out (i := 2) rfl k HKX.out).2.1), ((HOA.out ▸ Sp.cbCells HS.out (i := 2) rfl k HKX.out).2.2)⟩) (fun hHeld => ?_)
      clear hK K; (refine nm_ (some 25) ?_); (refine on_ 6 (some 27) ?_)
      refine o1_ 7 (some 28) (fun K hK => ?_)
      (obtain ⟨hs0, hs1, hs2⟩ := Sp.cbCells HS.out (i := 0) rfl i HI6.out); (rw [HSI0.out] at hs0 hs1 hs2); (refine event_step (v := .agg #[.int .i64 si.f0, .int .i64 si.f1, .int .i64 si.f2]) (w1 := wA12) (by rfl) (by first | (go_simp; done) | (go_simp; rfl)) ?_); clear hs0 hs1 hs2
      refine hK.out _ _ (⟨((HOA.out ▸ Sp.cbCells HS.out (i := 2) rfl k HKX.out).1), ((HOA.out ▸ Sp.cbCells HS.out (i := 2) rfl k HKX.out).2.1), ((HOA.out ▸ Sp.cbCells HS.out (i := 2) rfl k HKX.out).2.2)⟩) (fun hHeld => ?_)
      clear hK K; (refine nm_ (some 28) ?_)
      refine o1_ 8 (some 29) (fun K hK => ?_)
      (refine gs_ Try.func89 #[.agg #[.int .i64 c.f0, .int .i64 c.f1, .int .i64 c.f2], .agg #[.int .i64 si.f0, .int .i64 si.f1, .int .i64 si.f2]] ?_); (refine (spec_l09Add.calls c.f0 c.f1 c.f2 si.f0 si.f1 si.f2 (addC c si).f0 (addC c si).f1 (addC c si).f2 _ rfl).mono ?_); (rintro e wA13 ⟨rfl, hb⟩); (refine ⟨_, rfl, ?_⟩); (replace HS := A0_ (Sp.far HS.out hb)); clear hb
      refine hK.out _ _ (⟨((HOA.out ▸ Sp.cbCells HS.out (i := 2) rfl k HKX.out).1), ((HOA.out ▸ Sp.cbCells HS.out (i := 2) rfl k HKX.out).2.1), ((HOA.out ▸ Sp.cbCells HS.out (i := 2) rfl k HKX.out).2.2)⟩) (fun hHeld => ?_)
      clear hK K; (refine nm_ (some 29) ?_)
      refine o1_ 10 none (fun K hK => ?_)
      (refine skip_ (w1 := wA13.setCells gx 0 (#[.int .i64 (addC c si).f0, .int .i64 (addC c si).f1, .int .i64 (addC c si).f2] : Array Value).toList) (by rfl) rfl (exec_store (v := .pointer (some ⟨gx, 0, none⟩)) (u := .agg #[.int .i64 (addC c si).f0, .int .i64 (addC c si).f1, .int .i64 (addC c si).f2]) rfl (by first | rfl | (go_simp; done) | (go_simp; rfl)) (by first | rfl | (go_simp; done) | (go_simp; rfl)) (Sp.blkStore HS.out (i := 1) rfl (.agg #[.int .i64 (addC c si).f0, .int .i64 (addC c si).f1, .int .i64 (addC c si).f2]) (#[.int .i64 (addC c si).f0, .int .i64 (addC c si).f1, .int .i64 (addC c si).f2]) rfl rfl (by kernel_rfl) (by first | (simp; done) | (simp [Value.oneCell']; done) | (simp; exact ⟨rfl, rfl, rfl⟩)))) ?_); (obtain ⟨wS14, hw_⟩ : ∃ w_, w_ = wA13.setCells gx 0 (#[.int .i64 (addC c si).f0, .int .i64 (addC c si).f1, .int .i64 (addC c si).f2] : Array Value).toList := ⟨_, rfl⟩); (rw [← hw_]); (have HS_ := A0_ (Sp.blkAll HS.out (i := 1) rfl (#[.int .i64 (addC c si).f0, .int .i64 (addC c si).f1, .int .i64 (addC c si).f2]) rfl)); (rw [← hw_] at HS_); clear HS; (have HS := HS_); clear HS_ hw_
      refine hK.out _ _ (⟨((HOA.out ▸ Sp.cbCells HS.out (i := 2) rfl k HKX.out).1), ((HOA.out ▸ Sp.cbCells HS.out (i := 2) rfl k HKX.out).2.1), ((HOA.out ▸ Sp.cbCells HS.out (i := 2) rfl k HKX.out).2.2)⟩) (fun hHeld => ?_)
      clear hK K; (refine dn_ ?_); (replace HS := A0_ (Sp.arr (pre := [Res.row kC 94 w.heap.size (.slice (some ads) (stepsC).length cA12) (stepsC), Res.blk gx #[.int .i64 (addC c si).f0, .int .i64 (addC c si).f1, .int .i64 (addC c si).f2] 94, Res.row kC 94 w.heap.size (.slice (some ado) (expI l0 o c i).length ca) (expI l0 o c i)]) (pre' := [Res.blk gx #[.int .i64 (addC c si).f0, .int .i64 (addC c si).f1, .int .i64 (addC c si).f2] 94, Res.row kC 94 w.heap.size (.slice (some ado) (expI l0 o c i).length ca) (expI l0 o c i), Res.row kC 94 w.heap.size (.slice (some ads) (stepsC).length cA12) (stepsC)]) (rest := ([] : List Res)) [1, 2, 0] HS.out rfl rfl)); (rw [show addC c si = x from hx.symm] at HS); (have HX6 := A0_ hx); clear hx; (have hx0 := (cl_ HS 0 0 rfl).trans rfl); (have hx1 := (cl_ HS 0 1 rfl).trans rfl); (have hx2 := (cl_ HS 0 2 rfl).trans rfl); (obtain ⟨Ka, ra, ha, hKa⟩ := HIX.out l0 x HZ.out.2); (have HKA := A0_ hKa)
      cases c1 : l0.contains x with
      | false =>
       (rw [c1] at ha); (have n0_ : decide (0 ≤ ra) = false := ha); (have n1_ : (0 ≤ ra) = False := eq_false (of_decide_eq_false ha)); (have HN := A0_ (show expI l0 o c (i + 1) = expI l0 o c i by rw [HES.out, ← HX6.out]; unfold addO; rw [c1, Bool.false_and, if_neg (by simp)])); clear c1 ha
       go_wp2_with (first
        | (go_at_call 110; refine (spec_l09Index.calls Ka (some ad0) c0 l0 x.f0 x.f1 x.f2 ra _ (Kd.C_below HR0.out HS.out.below) HC0.out HKA.out).mono ?_; rintro e wc_ ⟨rfl, hd_⟩; replace HS := A0_ (Sp.far HS.out hd_); clear hd_ hx0 hx1 hx2 HKA; have hx0 := (cl_ HS 0 0 rfl).trans rfl; have hx1 := (cl_ HS 0 1 rfl).trans rfl; have hx2 := (cl_ HS 0 2 rfl).trans rfl))
       (replace HS := A0_ (show Sp w [Res.row kC 94 w.heap.size (.slice (some ado) (expI l0 o c i).length ca) (expI l0 o c i)] _ from Sp.tail (Sp.out HS.out 2))); (go_roundg k2)
       case measure => omega
       case rel =>
        (rw [HWI.out]); (exact ⟨i + 1, some ado, ca, rfl, by rw [HN.out], ⟨by have := HI6.out; omega, by have := HY.out; omega⟩, ⟨by rw [HN.out]; exact HS.out⟩⟩)
      | true =>
       (rw [c1] at ha); (have n0_ : decide (0 ≤ ra) = true := ha); (have n1_ : (0 ≤ ra) = True := eq_true (of_decide_eq_true ha)); (obtain ⟨Kb, rb, hb, hKb⟩ := HIX.out (expI l0 o c i) x (by have := HFI.out.len; have := HZ.out.2; omega)); (have HKB := A0_ hKb); clear ha hKb
       cases c2 : (expI l0 o c i).contains x with
       | true =>
        (rw [c2] at hb); (have m0_ : decide (rb < 0) = false := decide_eq_false (by have := of_decide_eq_true hb; omega)); (have m1_ : (rb < 0) = False := eq_false (by have := of_decide_eq_true hb; omega)); (have HN := A0_ (show expI l0 o c (i + 1) = expI l0 o c i by rw [HES.out, ← HX6.out]; unfold addO; rw [c1, c2, Bool.not_true, Bool.and_false, if_neg (by simp)])); clear c1 c2 hb
        go_wp2_with (first
         | (go_at_call 110; refine (spec_l09Index.calls Ka (some ad0) c0 l0 x.f0 x.f1 x.f2 ra _ (Kd.C_below HR0.out HS.out.below) HC0.out HKA.out).mono ?_; rintro e wc_ ⟨rfl, hd_⟩; replace HS := A0_ (Sp.far HS.out hd_); clear hd_ hx0 hx1 hx2 HKA; have hx0 := (cl_ HS 0 0 rfl).trans rfl; have hx1 := (cl_ HS 0 1 rfl).trans rfl; have hx2 := (cl_ HS 0 2 rfl).trans rfl)
         | (go_at_call 110; refine (spec_l09Index.calls Kb (some ado) ca (expI l0 o c i) x.f0 x.f1 x.f2 rb _ (Sp.reads HS.out (i := 1) rfl).2.2 (Sp.reads HS.out (i := 1) rfl).2.1 HKB.out).mono ?_; rintro e wc_ ⟨rfl, hd_⟩; replace HS := A0_ (Sp.far HS.out hd_); clear hd_ hx0 hx1 hx2 HKB; have hx0 := (cl_ HS 0 0 rfl).trans rfl; have hx1 := (cl_ HS 0 1 rfl).trans rfl; have hx2 := (cl_ HS 0 2 rfl).trans rfl))
        (replace HS := A0_ (show Sp w [Res.row kC 94 w.heap.size (.slice (some ado) (expI l0 o c i).length ca) (expI l0 o c i)] _ from Sp.tail (Sp.out HS.out 2))); (go_roundg k2)
        case measure => omega
        case rel =>
         (rw [HWI.out]); (exact ⟨i + 1, some ado, ca, rfl, by rw [HN.out], ⟨by have := HI6.out; omega, by have := HY.out; omega⟩, ⟨by rw [HN.out]; exact HS.out⟩⟩)
       | false =>
        (rw [c2] at hb); (have m0_ : decide (rb < 0) = true := decide_eq_true (by have := of_decide_eq_false hb; omega)); (have m1_ : (rb < 0) = True := eq_true (by have := of_decide_eq_false hb; omega)); (have HN := A0_ (show expI l0 o c (i + 1) = expI l0 o c i ++ [x] by rw [HES.out, ← HX6.out]; unfold addO; rw [c1, c2, Bool.not_false, Bool.and_true, if_pos rfl])); clear c1 c2 hb; (replace HS := A0_ (show Sp w [Res.blk gx #[.int .i64 x.f0, .int .i64 x.f1, .int .i64 x.f2] 94, Res.row kC 94 w.heap.size (.slice (some ado) (expI l0 o c i).length ca) (expI l0 o c i)] _ from Sp.out HS.out 2))
        go_wp2_with (first
         | (go_at_call 110; refine (spec_l09Index.calls Ka (some ad0) c0 l0 x.f0 x.f1 x.f2 ra _ (Kd.C_below HR0.out HS.out.below) HC0.out HKA.out).mono ?_; rintro e wc_ ⟨rfl, hd_⟩; replace HS := A0_ (Sp.far HS.out hd_); clear hd_ hx0 hx1 hx2 HKA; have hx0 := (cl_ HS 0 0 rfl).trans rfl; have hx1 := (cl_ HS 0 1 rfl).trans rfl; have hx2 := (cl_ HS 0 2 rfl).trans rfl)
         | (go_at_call 110; refine (spec_l09Index.calls Kb (some ado) ca (expI l0 o c i) x.f0 x.f1 x.f2 rb _ (Sp.reads HS.out (i := 1) rfl).2.2 (Sp.reads HS.out (i := 1) rfl).2.1 HKB.out).mono ?_; rintro e wc_ ⟨rfl, hd_⟩; replace HS := A0_ (Sp.far HS.out hd_); clear hd_ hx0 hx1 hx2 HKB; have hx0 := (cl_ HS 0 0 rfl).trans rfl; have hx1 := (cl_ HS 0 1 rfl).trans rfl; have hx2 := (cl_ HS 0 2 rfl).trans rfl)
         | ((with_reducible refine gate_dst (N := 42) rfl ?_); refine Kd.R_lit kC _ 94 ?hg (N := 42) ?hd (xs := [x]) (inner := [.int .i64 x.f0, .int .i64 x.f1, .int .i64 x.f2]) (ok := fun _ => True) (okp := fun _ => True) ?hr ?hp (fun _ hk => hk) trivial (Below.refl _ _) (Nat.le_refl _) (by simp) ?_; (case hd => rfl); (case hg => rfl); (case hr => first | (go_simp; done) | (go_simp; rfl)); (case hp => exact (Reps.c3 (show Kd.M kC _ _ _ x [.int .i64 x.f0, .int .i64 x.f1, .int .i64 x.f2] from k94_mkM _ _ _ x) (Reps.none _ _))); intro vl_ wl_ ho_ hb_ hg_ hn_; clear hg_ hn_; replace HS := A0_ (Sp.made' HS.out hb_ ho_); clear ho_ hb_; obtain ⟨Ax, cx, ev_⟩ := Sp.slice HS.out (i := 0) rfl; subst ev_; clear hx0 hx1 hx2)
         | ((with_reducible refine gate_builtin (b := .append) (xs := #[.tmp 40, .tmp 42]) rfl ?_); at_builtin; obtain ⟨fp_, ho_, hf_, hc_⟩ := Sp.row HS.out (i := 2) rfl; refine Kd.R_append_rows kC (w0 := w) w.heap.size rfl (.tmp 40) (.tmp 42) 35 94 ((.agg #[(.int .i64 0), (.int .i64 0), (.int .i64 0)])) 24 rfl Try.underlying35 info94 rfl (by decide) (by omega) (.slice (some ado) (expI l0 o c i).length ca) (expI l0 o c i) ([x]) _ _ _ _ (fun _ => False) rfl rfl ho_ ((Sp.reads HS.out (i := 0) rfl).2.2) (fun _ _ h => h) (fun _ h => h.elim) (fun _ h => Or.inr h) HS.out.below HS.out.below.size ?aL ?_; (case aL => have := HFI.out.len; have := HZ.out.2; simp only [List.length_cons, List.length_nil]; omega); intro va_ wa_ ho hb hg hat; replace HS := A0_ (hc_ _ _ _ ho hg); clear ho hb hg hat hc_ hf_ ho_ fp_; obtain ⟨A2, c2_, ev_⟩ := Sp.slice HS.out (i := 2) rfl; subst ev_; rw [← HN.out] at HS))
        (replace HS := A0_ (show Sp w [Res.row kC 94 w.heap.size (.slice A2 (expI l0 o c (i + 1)).length c2_) (expI l0 o c (i + 1))] _ from Sp.tail (Sp.tail HS.out))); (go_roundg k2)
        case measure => omega
        case rel =>
         (rw [HWI.out]); (exact ⟨i + 1, A2, c2_, rfl, by rw [HN.out, List.length_append]; rfl, ⟨by have := HI6.out; omega, by have := HY.out; omega⟩, HS⟩)
    ·(have ci0 : decide (i < 6) = false := decide_eq_false ci); (have ci1 : (i < 6) = False := eq_false ci); (have ci2 : decide ((i : Int) < 6) = false := decide_eq_false (by omega)); (have ci3 : ((i : Int) < 6) = False := eq_false (by omega)); (have hi : i = 6 := by have := HY.out; omega); subst hi; clear ci; go_wp2; (go_roundg k1)
     case measure => omega
     case rel =>
      (rw [HW.out]); (have h1 := (HPR.out 6 (Nat.le_refl _)).1); (exact ⟨k + 1, expI l0 o c 6, A, ca, rfl, rfl, ⟨by omega, HFT.out 6 (Nat.le_refl _), by have := HX.out; omega⟩, ⟨by rw [HFIN.out, HNX.out]⟩, HS⟩)
  ·(have ck0 : decide (k < o.length) = false := decide_eq_false ck)
   have HNX := A0_ (show conP l0 = decide (o.length = l0.length) by
    (rw [HFIN.out]); (have h1 := HX.out.2.1.len); (have h2 := HX.out.1); (rw [show l0.length + 1 - k = (l0.length - k) + 1 from by omega]); (unfold bfsO); (rw [if_neg ck]))
   clear ck; (by_cases ce : o.length = l0.length)
   ·(have ce0 : (o.length == l0.length) = true := by rw [beq_iff_eq]; exact ce); (have ce1 : ((o.length : Int) == (l0.length : Int)) = true := by rw [beq_iff_eq]; omega); (have ce2 := eq_true ce); (rw [decide_eq_true ce] at HNX); clear ce; go_wp2; go_ret; (exact ⟨by rw [HNX.out]; rfl, HS.out.below⟩)
   ·(have ce0 : (o.length == l0.length) = false := by rw [beq_eq_false_iff_ne]; exact ce); (have ce1 : ((o.length : Int) == (l0.length : Int)) = false := by rw [beq_eq_false_iff_ne]; omega); (have ce2 := eq_false ce); (rw [decide_eq_false ce] at HNX); clear ce; go_wp2; go_ret; (exact ⟨by rw [HNX.out]; rfl, HS.out.below⟩)
def spec_IsAssembly.f (k : Nat) (l : List (List Cb)) : Option Bool := if l.length ≤ 1048576 ∧ ∀ p ∈ l, p.length ≤ 1048576 then some (asmS l) else none
theorem meetS_at (a b : List Cb) (ha : a.length ≤ 1048576) (hb : b.length ≤ 1048576) : ∃ K, spec_l27Meet.f K a b = some (meetS a b) := (smeet_ev a b ha hb).rounds
def sasF.T17 : Bool × List (List Nat × List Nat) := (true, [([], []), ([0], [0]), ([], []), ([1, 2], [1, 2]), ([3], [3]), ([], []), ([5], [5]), ([], []), ([6, 7], [6, 7]), ([8], [8]), ([4, 9], [4, 9])])
def sasF.B17 : List Nat := [0, 1, 0, 7, 15, 0, 32, 0, 224, 480, 1023]
theorem sasF.tab17 : rtab .any (opsOf Try.f55 17) = sasF.T17 := by kernel_rfl
theorem sasF.bits17 : waitsOk sasF.T17.2 sasF.B17 = true := by kernel_rfl
set_option maxHeartbeats 4000000 in
set_option maxRecDepth 100000 in
theorem spec_IsAssembly.calls (k : Nat) (A0 : Option Addr) (c0 : Nat) (l : List (List Cb)) (r : Bool) (w : World) (hr0 : Kd.C (Kd.slice 94 k94) w A0 l.length l) (hc0 : l.length ≤ c0) (h : spec_IsAssembly.f k l = some r) :
    Calls Try.prog 55 #[.agg #[.slice A0 l.length c0]] w fun e w' => e = .returned (.bool r) ∧ Below w.heap.size w w' := by
 (have hu32 := Try.underlying26); (have hu69 := Try.underlying94); (unfold spec_IsAssembly.f at h); (split at h)
 case isFalse => cases h
 (rename_i hz); (obtain rfl := Option.some.inj h); (have HR0 := A0_ hr0); (have HZ := A0_ hz); (have HS := A0_ (Sp.start w)); clear hr0 hz h
 cases hn : inR (l.length : Int) 2 4 with
 | false =>
  (have HF := A0_ (asmS_few l hn)); (have HIN := A0_ ((in_eq (l.length : Int) 2 4).trans (congrArg some hn))); clear hn; (go_enter Try.func55, Try.ntmps55)
  go_wp2_with (first
   | ((with_reducible refine gate_dst (N := 1) rfl ?_); refine be_ (N := 1) (cs := #[.slice A0 l.length c0]) (t := 26) ?_; intro ga hgb_ wb_ hcb_ hbb_; replace HS := A0_ (Sp.boxed HS.out hgb_ hcb_ hbb_); clear hgb_ hcb_ hbb_; have ha0 := (cl_ HS 0 0 rfl).trans rfl)
   | (go_at_call 64; refine (spec_l01In.calls (l.length : Int) 2 4 false _ HIN.out).mono ?_; rintro e wc_ ⟨rfl, hb_⟩; replace HS := A0_ (Sp.far HS.out hb_.below); clear hb_ ha0))
  go_ret; (exact ⟨by rw [HF.out]; rfl, HS.out.below⟩)
 | true =>
 (have HIN := A0_ ((in_eq (l.length : Int) 2 4).trans (congrArg some hn))); (have HL := A0_ (show 2 ≤ l.length ∧ l.length ≤ 4 by unfold inR at hn; rw [Bool.and_eq_true, decide_eq_true_eq, decide_eq_true_eq] at hn; omega)); (have HEND := A0_ (asmS_end l hn)); clear hn; (go_enter Try.func55, Try.ntmps55)
 go_wp2_with (first
  | ((with_reducible refine gate_dst (N := 1) rfl ?_); refine be_ (N := 1) (cs := #[.slice A0 l.length c0]) (t := 26) ?_; intro ga hgb_ wb_ hcb_ hbb_; replace HS := A0_ (Sp.boxed HS.out hgb_ hcb_ hbb_); clear hgb_ hcb_ hbb_; have ha0 := (cl_ HS 0 0 rfl).trans rfl)
  | (go_at_call 64; refine (spec_l01In.calls (l.length : Int) 2 4 true _ HIN.out).mono ?_; rintro e wc_ ⟨rfl, hb_⟩; replace HS := A0_ (Sp.far HS.out hb_.below); clear hb_ ha0))
 go_loopg [3] (l.length + 1) (fun kq v3 w' => ∃ (i : Nat), v3 = .int .i64 (i : Int) ∧ Aside0 (i ≤ l.length ∧ kq + i = l.length + 1 ∧ (List.range i).all (rowOk l) = true) ∧ Aside0 (Sp w [Res.blk ga #[.slice A0 l.length c0] 26] w'))
 case atStart => exact ⟨0, rfl, ⟨by omega, by omega, rfl⟩, HS⟩
 case round =>
  clear HS; (obtain ⟨i, rfl, HX, HS⟩ := hrel); (obtain ⟨k1, rfl⟩ : ∃ k1, gk = k1 + 1 := ⟨gk - 1, by have := HX.out; omega⟩); (have ha0 := (cl_ HS 0 0 rfl).trans rfl); (by_cases ci : i < l.length)
  ·(have ci0 : decide (i < l.length) = true := decide_eq_true ci); (have q0 : (0 ≤ (i : Int)) = True := eq_true (by omega)); (have q1 : ((i : Int) < (l.length : Int)) = True := eq_true (by omega)); (have q2 : (i < l.length) = True := eq_true ci); (have HW := A0_ (wrap_succ i (by have := HL.out; omega))); (have hno := asmS_no l i ci); (have hnx := range_next (rowOk l) i HX.out.2.2); (obtain ⟨adp, Ai, ci_, e, hx0, hx1, hx2⟩ := at_L3 HR0.out (i : Int) (by omega) (by omega)); subst e; (have hpl := HZ.out.2 _ (pAt_mem l i ci)); (rw [show rd_L3 l (i : Int) = pAt l i from rfl] at hx0 hx1 hx2); (rw [Int.toNat_natCast] at hx0); (unfold rowOk at hno hnx); (have HCI := A0_ ci); (obtain ⟨p, hp⟩ : ∃ p, p = pAt l i := ⟨_, rfl⟩); (rw [← hp] at hno hnx hx0 hx1 hx2 hpl); (have HP0 := A0_ hx0); (have HP1 := A0_ hx1); (have HP2 := A0_ hx2); (have HPL := A0_ hpl); (have hxi := pw_cell_below HS.out.below HP0.out); clear ci hp hx0 hx1 hx2
   cases b1 : solP p with
   | false =>
    (have HSO := A0_ (show spec_l09Solid.f 0 p = some false by unfold spec_l09Solid.f; rw [if_pos hpl, b1])); (have HF := A0_ (hno (by rw [b1, Bool.false_and]))); clear hno hnx b1 hpl
    go_wp2_with (first
     | (go_at_call 84; refine (spec_l09Solid.calls 0 Ai ci_ p false _ (Kd.C_below HP2.out HS.out.below) HP1.out HSO.out).mono ?_; rintro e wc_ ⟨rfl, hb_⟩; replace HS := A0_ (Sp.far HS.out hb_); clear hb_ ha0 hxi))
    go_ret; (exact ⟨by rw [HF.out]; rfl, HS.out.below⟩)
   | true =>
   (have HSO := A0_ (show spec_l09Solid.f 0 p = some true by unfold spec_l09Solid.f; rw [if_pos hpl, b1]))
   have h1 : 1 ≤ p.length := by
    (unfold solP at b1); (rw [Bool.and_eq_true, Bool.and_eq_true, decide_eq_true_eq] at b1); (exact b1.2.1)
   (rw [b1, Bool.true_and] at hno hnx); clear b1
   cases b2 : conP p with
   | false =>
    (have HCO := A0_ (show spec_l09Connected.f 0 p = some false by unfold spec_l09Connected.f; rw [if_pos ⟨h1, hpl⟩, b2])); (have HF := A0_ (hno (by rw [b2, Bool.false_and]))); clear hno hnx b2 hpl h1
    go_wp2_with (first
     | (go_at_call 84; refine (spec_l09Solid.calls 0 Ai ci_ p true _ (Kd.C_below HP2.out HS.out.below) HP1.out HSO.out).mono ?_; rintro e wc_ ⟨rfl, hb_⟩; replace HS := A0_ (Sp.far HS.out hb_); clear hb_ ha0 hxi; have ha0 := (cl_ HS 0 0 rfl).trans rfl; have hxi := pw_cell_below HS.out.below HP0.out)
     | (go_at_call 85; refine (spec_l09Connected.calls 0 Ai ci_ p false _ (Kd.C_below HP2.out HS.out.below) HP1.out HCO.out).mono ?_; rintro e wc_ ⟨rfl, hb_⟩; replace HS := A0_ (Sp.far HS.out hb_); clear hb_ ha0 hxi))
    go_ret; (exact ⟨by rw [HF.out]; rfl, HS.out.below⟩)
   | true =>
   (have HCO := A0_ (show spec_l09Connected.f 0 p = some true by unfold spec_l09Connected.f; rw [if_pos ⟨h1, hpl⟩, b2])); (rw [b2, Bool.true_and] at hno hnx); (have HNO := A0_ hno); (have HNX := A0_ hnx); clear hno hnx b2 hpl h1
   go_wp2_with (first
    | (go_at_call 84; refine (spec_l09Solid.calls 0 Ai ci_ p true _ (Kd.C_below HP2.out HS.out.below) HP1.out HSO.out).mono ?_; rintro e wc_ ⟨rfl, hb_⟩; replace HS := A0_ (Sp.far HS.out hb_); clear hb_ ha0 hxi; have ha0 := (cl_ HS 0 0 rfl).trans rfl; have hxi := pw_cell_below HS.out.below HP0.out)
    | (go_at_call 85; refine (spec_l09Connected.calls 0 Ai ci_ p true _ (Kd.C_below HP2.out HS.out.below) HP1.out HCO.out).mono ?_; rintro e wc_ ⟨rfl, hb_⟩; replace HS := A0_ (Sp.far HS.out hb_); clear hb_ ha0 hxi))
   go_loopg [4] (p.length + 1) (fun kq v4 w' => ∃ (j : Nat), v4 = .int .i64 (j : Int) ∧ Aside0 (j ≤ p.length ∧ kq + j = p.length + 1 ∧ (List.range j).all (fun c => inCb (cAt p c) 0 7) = true) ∧ Aside0 (Sp w [Res.blk ga #[.slice (some adp) l.length c0] 26] w'))
   case atStart => exact ⟨0, rfl, ⟨by omega, by omega, rfl⟩, HS⟩
   case round =>
    clear HS; (obtain ⟨j, rfl, HY, HS⟩ := hrel); (obtain ⟨k2, rfl⟩ : ∃ k2, gk = k2 + 1 := ⟨gk - 1, by have := HY.out; omega⟩); (have ha0 := (cl_ HS 0 0 rfl).trans rfl); (have hxi := pw_cell_below HS.out.below HP0.out); (by_cases cj : j < p.length)
    ·(have cj0 : decide (j < p.length) = true := decide_eq_true cj); (have p0 : (0 ≤ (j : Int)) = True := eq_true (by omega)); (have p1 : ((j : Int) < (p.length : Int)) = True := eq_true (by omega)); (have p2 : (j < p.length) = True := eq_true cj); (have HWJ := A0_ (wrap_succ j (by have := HPL.out; omega)))
     have HNJ := A0_ (range_next (fun c => inCb (cAt p c) 0 7) j HY.out.2.2)
     have HBJ := A0_ (fun h => HNO.out (by rw [range_no (fun c => inCb (cAt p c) 0 7) p.length j cj h, Bool.false_and]))
     (obtain ⟨adc, e, hx0, hx1, hx2⟩ := at_T94 (Kd.C_below HP2.out HS.out.below) (j : Int) (by omega) (by omega)); subst e; (rw [show rd_T94 p (j : Int) = cAt p j from rfl] at hx0 hx1 hx2); (rw [Int.toNat_natCast] at hx0 hx1 hx2); (have HCJ := A0_ cj); (obtain ⟨c, hc⟩ : ∃ c, c = cAt p j := ⟨_, rfl⟩); (rw [← hc] at hx0 hx1 hx2 HNJ HBJ); clear cj hc
     have hin : ∀ x : Int, spec_l01In.f x 0 7 = some (inR x 0 7) := fun x => in_eq x 0 7
     cases b0 : inR c.f0 0 7 with
     | false =>
      (have HB0 := A0_ ((hin c.f0).trans (congrArg some b0))); (have HF := A0_ (HBJ.out (by unfold inCb; rw [b0]; rfl))); clear b0 hin HNJ HBJ
      go_wp2_with (first
       | (go_at_call 64; obtain ⟨gc, hg_⟩ : ∃ g_, g_ = (wr).heap.size := ⟨_, rfl⟩; obtain ⟨wx, hw_⟩ : ∃ w_, w_ = (wr).alloc (.cells #[.int .i64 c.f0, .int .i64 c.f1, .int .i64 c.f2] 94) := ⟨_, rfl⟩; (try rw [← hw_]); (try rw [← hg_]); have HS_ := A0_ (Sp.box HS.out #[.int .i64 c.f0, .int .i64 c.f1, .int .i64 c.f2] 94); rw [← hw_, ← hg_] at HS_; clear HS; have HS := HS_; clear HS_ hw_ hg_; refine (spec_l01In.calls c.f0 0 7 false _ HB0.out).mono ?_; rintro e wc_ ⟨rfl, hb_⟩; replace HS := A0_ (Sp.far HS.out hb_.below); clear hb_ ha0 hxi hx0 hx1 hx2))
      go_ret; (exact ⟨by rw [HF.out]; rfl, HS.out.below⟩)
     | true =>
     (have HB0 := A0_ ((hin c.f0).trans (congrArg some b0)))
     cases b1 : inR c.f1 0 7 with
     | false =>
      (have HB1 := A0_ ((hin c.f1).trans (congrArg some b1))); (have HF := A0_ (HBJ.out (by unfold inCb; rw [b0, b1]; rfl))); clear b0 b1 hin HNJ HBJ
      go_wp2_with (first
       | (go_at_call 64; obtain ⟨gc, hg_⟩ : ∃ g_, g_ = (wr).heap.size := ⟨_, rfl⟩; obtain ⟨wx, hw_⟩ : ∃ w_, w_ = (wr).alloc (.cells #[.int .i64 c.f0, .int .i64 c.f1, .int .i64 c.f2] 94) := ⟨_, rfl⟩; (try rw [← hw_]); (try rw [← hg_]); have HS_ := A0_ (Sp.box HS.out #[.int .i64 c.f0, .int .i64 c.f1, .int .i64 c.f2] 94); rw [← hw_, ← hg_] at HS_; clear HS; have HS := HS_; clear HS_ hw_ hg_; refine (spec_l01In.calls c.f0 0 7 true _ HB0.out).mono ?_; rintro e wc_ ⟨rfl, hb_⟩; replace HS := A0_ (Sp.far HS.out hb_.below); clear hb_ ha0 hxi hx0 hx1 hx2 HB0; have hc1 := (cl_ HS 0 1 rfl).trans rfl)
       | (go_at_call 64; refine (spec_l01In.calls c.f1 0 7 false _ HB1.out).mono ?_; rintro e wc_ ⟨rfl, hb_⟩; replace HS := A0_ (Sp.far HS.out hb_.below); clear hb_ hc1))
      go_ret; (exact ⟨by rw [HF.out]; rfl, HS.out.below⟩)
     | true =>
     (have HB1 := A0_ ((hin c.f1).trans (congrArg some b1)))
     cases b2 : inR c.f2 0 7 with
     | false =>
      (have HB2 := A0_ ((hin c.f2).trans (congrArg some b2))); (have HF := A0_ (HBJ.out (by unfold inCb; rw [b0, b1, b2]; rfl))); clear b0 b1 b2 hin HNJ HBJ
      go_wp2_with (first
       | (go_at_call 64; obtain ⟨gc, hg_⟩ : ∃ g_, g_ = (wr).heap.size := ⟨_, rfl⟩; obtain ⟨wx, hw_⟩ : ∃ w_, w_ = (wr).alloc (.cells #[.int .i64 c.f0, .int .i64 c.f1, .int .i64 c.f2] 94) := ⟨_, rfl⟩; (try rw [← hw_]); (try rw [← hg_]); have HS_ := A0_ (Sp.box HS.out #[.int .i64 c.f0, .int .i64 c.f1, .int .i64 c.f2] 94); rw [← hw_, ← hg_] at HS_; clear HS; have HS := HS_; clear HS_ hw_ hg_; refine (spec_l01In.calls c.f0 0 7 true _ HB0.out).mono ?_; rintro e wc_ ⟨rfl, hb_⟩; replace HS := A0_ (Sp.far HS.out hb_.below); clear hb_ ha0 hxi hx0 hx1 hx2 HB0; have hc1 := (cl_ HS 0 1 rfl).trans rfl; have hc2 := (cl_ HS 0 2 rfl).trans rfl)
       | (go_at_call 64; refine (spec_l01In.calls c.f1 0 7 true _ HB1.out).mono ?_; rintro e wc_ ⟨rfl, hb_⟩; replace HS := A0_ (Sp.far HS.out hb_.below); clear hb_ hc1 hc2 HB1; have hc2 := (cl_ HS 0 2 rfl).trans rfl)
       | (go_at_call 64; refine (spec_l01In.calls c.f2 0 7 false _ HB2.out).mono ?_; rintro e wc_ ⟨rfl, hb_⟩; replace HS := A0_ (Sp.far HS.out hb_.below); clear hb_ hc2))
      go_ret; (exact ⟨by rw [HF.out]; rfl, HS.out.below⟩)
     | true =>
     (have HB2 := A0_ ((hin c.f2).trans (congrArg some b2))); (have HN := A0_ (HNJ.out (by unfold inCb; rw [b0, b1, b2]; rfl))); clear b0 b1 b2 hin HNJ HBJ
     go_wp2_with (first
      | (go_at_call 64; obtain ⟨gc, hg_⟩ : ∃ g_, g_ = (wr).heap.size := ⟨_, rfl⟩; obtain ⟨wx, hw_⟩ : ∃ w_, w_ = (wr).alloc (.cells #[.int .i64 c.f0, .int .i64 c.f1, .int .i64 c.f2] 94) := ⟨_, rfl⟩; (try rw [← hw_]); (try rw [← hg_]); have HS_ := A0_ (Sp.box HS.out #[.int .i64 c.f0, .int .i64 c.f1, .int .i64 c.f2] 94); rw [← hw_, ← hg_] at HS_; clear HS; have HS := HS_; clear HS_ hw_ hg_; refine (spec_l01In.calls c.f0 0 7 true _ HB0.out).mono ?_; rintro e wc_ ⟨rfl, hb_⟩; replace HS := A0_ (Sp.far HS.out hb_.below); clear hb_ ha0 hxi hx0 hx1 hx2 HB0; have hc1 := (cl_ HS 0 1 rfl).trans rfl; have hc2 := (cl_ HS 0 2 rfl).trans rfl)
      | (go_at_call 64; refine (spec_l01In.calls c.f1 0 7 true _ HB1.out).mono ?_; rintro e wc_ ⟨rfl, hb_⟩; replace HS := A0_ (Sp.far HS.out hb_.below); clear hb_ hc1 hc2 HB1; have hc2 := (cl_ HS 0 2 rfl).trans rfl)
      | (go_at_call 64; refine (spec_l01In.calls c.f2 0 7 true _ HB2.out).mono ?_; rintro e wc_ ⟨rfl, hb_⟩; replace HS := A0_ (Sp.far HS.out hb_.below); clear hb_ hc2 HB2))
     (replace HS := A0_ (Sp.tail HS.out)); (go_roundg k2)
     case measure => omega
     case rel =>
      (rw [HWJ.out]); (exact ⟨j + 1, rfl, ⟨by have := HCJ.out; omega, by have := HY.out; omega, HN.out⟩, HS⟩)
    ·(have cj0 : decide (j < p.length) = false := decide_eq_false cj); (have cj1 : (j < p.length) = False := eq_false cj); (have hj : j = p.length := by have := HY.out; omega); (have HALL := A0_ (hj ▸ HY.out.2.2)); (have hno := HNO.out); (have hnx := HNX.out); (rw [HALL.out, Bool.true_and] at hno hnx); (have HNO2 := A0_ hno); (have HNX2 := A0_ hnx); clear cj hj hno hnx HNO HNX HALL; go_wp2; clear hxi ha0
     go_loopg [6] (i + 1) (fun kq v6 w' => ∃ (j : Nat), v6 = .int .i64 (j : Int) ∧ Aside0 (j ≤ i ∧ kq + j = i + 1 ∧ (List.range j).all (fun q => !meetS p (pAt l q)) = true) ∧ Aside0 (Sp w [Res.blk ga #[.slice (some adp) l.length c0] 26] w'))
     case atStart => exact ⟨0, rfl, ⟨by omega, by omega, rfl⟩, HS⟩
     case round =>
      clear HS; (obtain ⟨j, rfl, HY2, HS⟩ := hrel); (obtain ⟨k2, rfl⟩ : ∃ k2, gk = k2 + 1 := ⟨gk - 1, by have := HY2.out; omega⟩); (by_cases cj : j < i)
      ·(have cj0 : decide (j < i) = true := decide_eq_true cj); (have p0 : (0 ≤ (j : Int)) = True := eq_true (by omega)); (have p1 : ((j : Int) < (l.length : Int)) = True := eq_true (by have := HCI.out; omega)); (have p2 : (j < l.length) = True := eq_true (by have := HCI.out; omega)); (have HWJ := A0_ (wrap_succ j (by have := HL.out; have := HCI.out; omega)))
       have HNJ := A0_ (range_next (fun q => !meetS p (pAt l q)) j HY2.out.2.2)
       have HBJ := A0_ (fun h => HNO2.out (range_no (fun q => !meetS p (pAt l q)) i j cj h))
       (obtain ⟨ad2, Aj, cj_, e, hx0, hx1, hx2⟩ := at_L3 HR0.out (j : Int) (by omega) (by have := HCI.out; omega)); (injection e with e); subst e; (have hpl := HZ.out.2 _ (pAt_mem l j (by have := HCI.out; omega))); (rw [show rd_L3 l (j : Int) = pAt l j from rfl] at hx0 hx1 hx2); (rw [Int.toNat_natCast] at hx0); (have HCJ := A0_ cj); (try dsimp only at HNJ HBJ); (obtain ⟨pj, hpj⟩ : ∃ pj, pj = pAt l j := ⟨_, rfl⟩); (rw [← hpj] at hx0 hx1 hx2 HNJ HBJ hpl); (have HJ0 := A0_ hx0); (have HJ1 := A0_ hx1); (have HJ2 := A0_ hx2); (obtain ⟨KM, hKM⟩ := meetS_at p pj HPL.out hpl); (have HME := A0_ hKM); clear cj hpj hx0 hx1 hx2 hKM hpl; (replace HS := A0_ (show Sp w ([Res.blk ga #[.slice (some adp) l.length c0] 26] ++ ([] : List Res)) wr.drew from Sp.drew HS.out)); go_wp2
       refine start_ (n := 11) (S := fun w' => w'.cell? ⟨ga, 0, none⟩ = some (.slice (some adp) l.length c0) ∧ w'.cell? (adp.add i) = some (.slice Ai p.length ci_) ∧ w'.cell? (adp.add j) = some (.slice Aj pj.length cj_)) (ds := []) #[ff,ff,ff,ff,ff,ff,ff,ff,ff,ff,ff] (by kernel_rfl) rfl rfl (⟨(cl_ HS 0 0 rfl).trans rfl, pw_cell_below HS.out.below HP0.out, pw_cell_below HS.out.below HJ0.out⟩) (fun hHeld => ?_)
       refine with_tabW sasF.tab17 sasF.bits17 (fun HT_ HW_ => ?_)
       (generalize wr.drew = wD at HS hHeld ⊢); (refine on_ 0 (some 74) ?_); (refine tk_ 1 (some 75) ?_); (refine on_ 2 (some 76) ?_); (refine on_ 3 (some 77) ?_); (refine tk_ 4 (some 78) ?_); (refine on_ 5 (some 79) ?_); (refine tk_ 6 (some 80) ?_); (refine on_ 7 (some 81) ?_); (refine on_ 8 (some 82) ?_); (refine tk_ 9 (some 83) ?_)
       refine o1_ 10 (some 84) (fun K hK => ?_)
       (refine gs_ Try.func86 #[.slice Ai p.length ci_, .slice Aj pj.length cj_] ?_); (refine (spec_l27Meet.calls KM Ai ci_ p Aj cj_ pj (meetS p pj) _ (Kd.C_below HP2.out HS.out.below) HP1.out (Kd.C_below HJ2.out HS.out.below) HJ1.out HME.out).mono ?_); (rintro e wA11 ⟨rfl, hb⟩); (refine ⟨_, rfl, ?_⟩); (replace HS := A0_ (Sp.far HS.out hb)); clear hb
       refine hK.out _ _ (⟨(cl_ HS 0 0 rfl).trans rfl, pw_cell_below HS.out.below HP0.out, pw_cell_below HS.out.below HJ0.out⟩) (fun hHeld => ?_)
       clear hK K; (refine nm_ (some 84) ?_); (refine dn_ ?_)
       cases hm : meetS p pj with
       | true =>
        (have HF := A0_ (HBJ.out (by rw [hm]; rfl))); clear HNJ HBJ; (try rw [hm]); go_wp2; go_ret; (exact ⟨by rw [HF.out]; rfl, HS.out.below⟩)
       | false =>
        (have HN := A0_ (HNJ.out (by rw [hm]; rfl))); clear HNJ HBJ; (try rw [hm]); go_wp2; (go_roundg k2)
        case measure => omega
        case rel =>
         (rw [HWJ.out]); (exact ⟨j + 1, rfl, ⟨by have := HCJ.out; omega, by have := HY2.out; omega, HN.out⟩, HS⟩)
      ·(have cj0 : decide (j < i) = false := decide_eq_false cj); (have cj1 : (j < i) = False := eq_false cj); (have hj : j = i := by have := HY2.out; omega); (have HN := A0_ (HNX2.out (hj ▸ HY2.out.2.2))); clear cj hj; go_wp2; (go_roundg k1)
       case measure => omega
       case rel =>
        (rw [HW.out]); (exact ⟨i + 1, rfl, ⟨by have := HCI.out; omega, by have := HX.out; omega, HN.out⟩, HS⟩)
  ·(have ci0 : decide (i < l.length) = false := decide_eq_false ci); (have ci1 : (i < l.length) = False := eq_false ci); (have hi : i = l.length := by have := HX.out; omega); (have HF := A0_ (HEND.out (hi ▸ HX.out.2.2))); clear ci hi; go_wp2; go_ret; (exact ⟨by rw [HF.out]; rfl, HS.out.below⟩)
theorem add_zero_in (c : Cb) (h : inCb c 0 7 = true) : addC c ⟨0, 0, 0⟩ = c := by
 rw [inCb_iff] at h
 unfold addC
 rw [wrap_id (by simp; omega) (by simp; omega), wrap_id (by simp; omega) (by simp; omega), wrap_id (by simp; omega) (by simp; omega)]
 simp
theorem map_zero_in (p : List Cb) (h : ∀ c ∈ p, inCb c 0 7 = true) : (p.map fun c => addC c ⟨0, 0, 0⟩) = p := by
 have : p.map (fun c => addC c ⟨0, 0, 0⟩) = p.map id := List.map_congr_left (fun c hc => add_zero_in c (h c hc))
 rw [this, List.map_id]
theorem all_at (p : List Cb) (q : Cb → Bool) : (List.range p.length).all (fun c => q (cAt p c)) = p.all q := by
 rw [Bool.eq_iff_iff, List.all_eq_true, List.all_eq_true]
 constructor
 ·intro h c hc
  obtain ⟨i, hi, rfl⟩ := List.mem_iff_getElem.1 hc
  have := h i (List.mem_range.2 hi)
  rw [show cAt p i = p[i] by simp [cAt, List.getD_eq_getElem?_getD, hi]] at this
  exact this
 ·intro h i hi
  have hl := List.mem_range.1 hi
  rw [show cAt p i = p[i] by simp [cAt, List.getD_eq_getElem?_getD, hl]]
  exact h _ (List.getElem_mem _)
theorem any_not_all (p : List Cb) (q : Cb → Bool) : (!p.any fun c => !q c) = p.all q := by
 rw [Bool.eq_iff_iff]
 simp
theorem part_ok (sol con : List Cb → Bool) (p : List Cb) (h : partOk sol con p = true) : sol p = true ∧ con p = true ∧ ∀ c ∈ p, inCb c 0 7 = true := by
 unfold partOk at h
 rw [any_not_all, Bool.and_eq_true, Bool.and_eq_true, List.all_eq_true] at h
 exact ⟨h.1, h.2.1, h.2.2⟩
theorem asm_eq (parts : List (List Cb)) : (parts.all (partOk solP conP) && clearP parts (zerosC parts.length)) = (List.range parts.length).all (rowOk parts) := by
 by_cases c : parts.all (partOk solP conP) = true
 ·rw [c, Bool.true_and]
  have hp : ∀ p ∈ parts, partOk solP conP p = true := List.all_eq_true.1 c
  have hzl : (zerosC parts.length).length = parts.length := List.length_replicate
  unfold clearP
  rw [hzl, Bool.eq_iff_iff, List.all_eq_true, List.all_eq_true]
  refine forall_congr' fun i => forall_congr' fun hi => ?_
  have hlt := List.mem_range.1 hi
  rw [show (zerosC parts.length).getD i ⟨0, 0, 0⟩ = oAt (zerosC parts.length) i from rfl, alone_eq parts _ i (by omega)]
  obtain ⟨a1, a2, a3⟩ := part_ok _ _ _ (hp _ (pAt_mem parts i hlt))
  unfold rowOk
  rw [a1, a2, all_at (pAt parts i) (fun c => inCb c 0 7), List.all_eq_true.2 a3, Bool.true_and, Bool.true_and, Bool.true_and]
  have : ∀ j ∈ List.range i, (!pairT parts (zerosC parts.length) i j) = (!meetS (pAt parts i) (pAt parts j)) := fun j hj => by
   have hj' := List.mem_range.1 hj
   obtain ⟨_, _, b3⟩ := part_ok _ _ _ (hp _ (pAt_mem parts j (by omega)))
   congr 1
   unfold pairT touchP meetS
   rw [zeros_at, zeros_at, ← pair_same _ _ _ _ a3 b3 (by decide) (by decide), map_zero_in _ a3, map_zero_in _ b3]
  rw [List.all_eq_true, List.all_eq_true]
  constructor
  ·intro h j hj
   rw [← this j hj]; exact h j hj
  ·intro h j hj
   rw [this j hj]; exact h j hj
 ·have h0 := Bool.eq_false_iff.mpr c
  rw [h0, Bool.false_and]
  symm
  rw [Bool.eq_false_iff]
  intro hall
  rw [List.all_eq_true] at hall
  refine c (List.all_eq_true.2 fun p hp => ?_)
  obtain ⟨i, hi, rfl⟩ := List.mem_iff_getElem.1 hp
  have h1 := hall i (List.mem_range.2 hi)
  have e : pAt parts i = parts[i] := by unfold pAt partAt; simp [hi]
  unfold rowOk at h1
  rw [e, all_at parts[i] (fun c => inCb c 0 7), Bool.and_eq_true, Bool.and_eq_true, Bool.and_eq_true] at h1
  unfold partOk
  rw [any_not_all, h1.1, h1.2.1, h1.2.2.1]
  rfl
theorem asm_same (parts : List (List Cb)) : asmS parts = isAsmP solP conP parts := by
 unfold asmS isAsmP
 rw [asm_eq]
def tot2 {α : Type} (rows : List (List α)) : Int := ((rows.map List.length).sum : Nat)
theorem tot2_cons {α : Type} (r : List α) (rs : List (List α)) : tot2 (r :: rs) = (r.length : Int) + tot2 rs := by unfold tot2; simp
structure SzOk {α : Type} (rows : List (List α)) : Prop where
 len : rows.length ≤ 1048576
 each : ∀ r ∈ rows, r.length ≤ 1048576
 tot : tot2 rows ≤ 1048576
abbrev asmP (parts : List (List Cb)) : Bool := isAsmP solP conP parts
theorem sol_at {parts : List (List Cb)} (hz : SzOk parts) : ∀ p ∈ parts, ∃ K, impl_isSolid.f K p = some (solP p) := fun p hp => (isolid_ev p (hz.each p hp)).rounds
theorem con_at {parts : List (List Cb)} (hz : SzOk parts) : ∀ p ∈ parts, solP p = true → ∃ K, impl_connectedCubes.f K p = some (conP p) := fun p hp hs => (icon_ev p (sol_in p hs).1 (hz.each p hp) (sol_in p hs).2.2).rounds
theorem asm_of {parts : List (List Cb)} (h : asmP parts = true) : (2 ≤ parts.length ∧ parts.length ≤ 4) ∧ ∀ p ∈ parts, (1 ≤ p.length ∧ p.length ≤ 24) ∧ ∀ c ∈ p, inCb c 0 7 = true := by
 unfold asmP isAsmP at h
 rw [Bool.and_eq_true, Bool.and_eq_true, Bool.and_eq_true, decide_eq_true_eq, decide_eq_true_eq, List.all_eq_true] at h
 refine ⟨h.1, fun p hp => ?_⟩
 obtain ⟨h1, _, h3⟩ := part_ok _ _ p (h.2.1 p hp)
 exact ⟨⟨(sol_in p h1).1, (sol_in p h1).2.1⟩, h3⟩
theorem fr_at {w : World} {Ap : Option Addr} {parts : List (List Cb)} (hC : kP.C w Ap parts.length parts) (hz : SzOk parts) (h : asmP parts = true) : FrOk w Ap parts := ⟨hC, by have := (asm_of h).1; omega, hz.each⟩
theorem smoves_at {parts : List (List Cb)} (hz : SzOk parts) (h : asmP parts = true) : ∀ o : List Cb, o.length = parts.length → ∃ K, spec_l27Moves.f K parts o = some (movesP parts o) := fun o ho =>
 (smoves_ev parts o ho (by have := (asm_of h).1; omega) (by have := (asm_of h).1; omega) hz.each (fun p hp => ((asm_of h).2 p hp).2)).rounds
theorem sIsAsm_calls (Ap : Option Addr) (cp : Nat) (parts : List (List Cb)) (w : World) (hC : kP.C w Ap parts.length parts) (hcp : parts.length ≤ cp) (hz : SzOk parts) :
  Calls Try.prog 55 #[.agg #[.slice Ap parts.length cp]] w fun e w' => e = .returned (.bool (asmP parts)) ∧ Below w.heap.size w w' :=
 spec_IsAssembly.calls 0 Ap cp parts (asmP parts) w hC hcp (by unfold spec_IsAssembly.f; rw [if_pos ⟨hz.len, hz.each⟩, asm_same])
theorem iIsAsm_calls (w0 : World) (Ap : Option Addr) (cp : Nat) (parts : List (List Cb)) (hC : kP.C w0 Ap parts.length parts) (hz : SzOk parts) (rest : List Res) (w : World) (hs : Sp w0 rest w) :
  Calls Try.prog 43 #[.agg #[.slice Ap parts.length cp]] w fun e w' => e = .returned (.bool (asmP parts)) ∧ Sp w0 rest w' := isAssembly_calls w0 Ap cp parts hC hz.each solP conP (sol_at hz) (con_at hz) rest w hs
def codeP (parts : List (List Cb)) (offs : List Cb) : Int := if asmP parts = true then (if areOffP parts offs = true then 0 else 2) else 1
theorem rdsOld {w0 : World} {Ao : Option Addr} {offs : List Cb} (hO : kC.C w0 Ao offs.length offs) : Rds w0 (Res.pure True) Ao offs := fun fp w hb _ => Kd.C_below hO hb
set_option maxHeartbeats 4000000 in
set_option maxRecDepth 100000 in
theorem readOffs_calls (w0 : World) (Ap : Option Addr) (cp : Nat) (parts : List (List Cb)) (hC : kP.C w0 Ap parts.length parts) (hz : SzOk parts) (Ao : Option Addr) (co : Nat) (offs : List Cb) (hO : kC.C w0 Ao offs.length offs) (hco : offs.length ≤ co) (rest : List Res) (w : World) (hs : Sp w0 rest w) :
  Calls Try.prog 52 #[.agg #[.slice Ap parts.length cp], .slice Ao offs.length co] w fun e w' => ∃ v_ : Value, e = .returned (.tuple #[v_, .int .i64 (codeP parts offs)]) ∧ Sp w0 rest w' := by
 have hu32 := Try.underlying26
 have HS := A0_ hs
 have HIA := A0_ (fun rest w hs => iIsAsm_calls w0 Ap cp parts hC hz rest w hs)
 cases has : asmP parts with
 | false =>
  rw [has] at HIA
  have HST := A0_ (show codeP parts offs = 1 by unfold codeP; rw [has, if_neg (by simp)])
  clear has hC hz hO hco hs
  rw [HST.out]
  go_enter Try.func52, Try.ntmps52
  go_wp2_with (first
   | ((with_reducible refine gate_dst (N := 2) rfl ?_); refine be_ (N := 2) (cs := #[.slice Ap parts.length cp]) (t := 26) ?_; intro ga hgb_ wb_ hcb_ hbb_; replace HS := A0_ (Sp.boxed HS.out hgb_ hcb_ hbb_); clear hgb_ hcb_ hbb_; have ha0 := (cl_ HS 0 0 rfl).trans rfl)
   | (go_at_call 43; go_loud (refine (HIA.out _ _ HS.out).mono ?_; rintro e wi_ ⟨rfl, hs_⟩; replace HS := A0_ (hs_); clear hs_ ha0)))
  go_ret2
  exact ⟨_, rfl, Sp.out HS.out 0⟩
 | true =>
  rw [has] at HIA
  have hF := fr_at hC hz has
  have hne : 1 ≤ parts.length := by have := (asm_of has).1; omega
  have HNF := A0_ (fun rest w hs => newFrame_calls w0 Ap cp parts rest w hs)
  have HAO := A0_ (fun g gM rest w hs => areOff_calls w0 Ap cp g gM parts hF hne (Res.pure True) Ao co offs (rdsOld hO) hco rest w hs)
  cases hof : areOffP parts offs with
  | false =>
   rw [hof] at HAO
   have HST := A0_ (show codeP parts offs = 2 by unfold codeP; rw [has, hof, if_pos rfl, if_neg (by simp)])
   clear has hof hC hz hO hco hs hF hne
   rw [HST.out]
   go_enter Try.func52, Try.ntmps52
   go_wp2_with (first
    | ((with_reducible refine gate_dst (N := 2) rfl ?_); refine be_ (N := 2) (cs := #[.slice Ap parts.length cp]) (t := 26) ?_; intro ga hgb_ wb_ hcb_ hbb_; replace HS := A0_ (Sp.boxed HS.out hgb_ hcb_ hbb_); clear hgb_ hcb_ hbb_; have ha0 := (cl_ HS 0 0 rfl).trans rfl)
    | (go_at_call 43; go_loud (refine (HIA.out _ _ HS.out).mono ?_; rintro e wi_ ⟨rfl, hs_⟩; replace HS := A0_ (hs_); clear hs_ ha0; have ha0 := (cl_ HS 0 0 rfl).trans rfl))
    | (go_at_call 50; go_loud (refine (HNF.out _ _ HS.out).mono ?_; rintro e wn_ ⟨gf, gM, rfl, hs_⟩; replace HS := A0_ (hs_); clear hs_ ha0))
    | (go_at_call 60; go_loud (have h2_ := A0_ (Sp.arr (pre := [Res.pure True, frBlk gf gM Ap cp parts, frMemo gM parts]) (pre' := [frBlk gf gM Ap cp parts, frMemo gM parts, Res.pure True]) [1, 2, 0] (Sp.pureIn HS.out trivial) rfl rfl); refine (HAO.out gf gM _ _ h2_.out).mono ?_; rintro e wo_ ⟨rfl, hs_⟩; replace HS := A0_ (hs_); clear hs_ h2_)))
   go_ret2
   exact ⟨_, rfl, Sp.out (Sp.out (Sp.out (Sp.out HS.out 0) 0) 0) 0⟩
  | true =>
   rw [hof] at HAO
   have HST := A0_ (show codeP parts offs = 0 by unfold codeP; rw [has, hof, if_pos rfl, if_pos rfl])
   clear has hof hC hz hO hco hs hF hne
   rw [HST.out]
   go_enter Try.func52, Try.ntmps52
   go_wp2_with (first
    | ((with_reducible refine gate_dst (N := 2) rfl ?_); refine be_ (N := 2) (cs := #[.slice Ap parts.length cp]) (t := 26) ?_; intro ga hgb_ wb_ hcb_ hbb_; replace HS := A0_ (Sp.boxed HS.out hgb_ hcb_ hbb_); clear hgb_ hcb_ hbb_; have ha0 := (cl_ HS 0 0 rfl).trans rfl)
    | (go_at_call 43; go_loud (refine (HIA.out _ _ HS.out).mono ?_; rintro e wi_ ⟨rfl, hs_⟩; replace HS := A0_ (hs_); clear hs_ ha0; have ha0 := (cl_ HS 0 0 rfl).trans rfl))
    | (go_at_call 50; go_loud (refine (HNF.out _ _ HS.out).mono ?_; rintro e wn_ ⟨gf, gM, rfl, hs_⟩; replace HS := A0_ (hs_); clear hs_ ha0))
    | (go_at_call 60; go_loud (have h2_ := A0_ (Sp.arr (pre := [Res.pure True, frBlk gf gM Ap cp parts, frMemo gM parts]) (pre' := [frBlk gf gM Ap cp parts, frMemo gM parts, Res.pure True]) [1, 2, 0] (Sp.pureIn HS.out trivial) rfl rfl); refine (HAO.out gf gM _ _ h2_.out).mono ?_; rintro e wo_ ⟨rfl, hs_⟩; replace HS := A0_ (hs_); clear hs_ h2_)))
   go_ret2
   exact ⟨_, rfl, Sp.out (Sp.out (Sp.out (Sp.out HS.out 0) 0) 0) 0⟩
theorem code_0 {parts : List (List Cb)} {offs : List Cb} (h : codeP parts offs = 0) : asmP parts = true ∧ offs.length = parts.length := by
 unfold codeP at h
 by_cases a : asmP parts = true
 ·rw [if_pos a] at h
  by_cases b : areOffP parts offs = true
  ·unfold areOffP at b
   rw [Bool.and_eq_true, decide_eq_true_eq] at b
   exact ⟨a, b.1⟩
  ·rw [if_neg b] at h; cases h
 ·rw [if_neg a] at h; cases h
section
attribute [local go_sem] min2_int min_two
theorem Sp.slStore {w0 w : World} {rs : List Res} {i e n cap : Nat} {ad : Addr} {xs : List Sl} (h : Sp w0 rs w) (hi : rs[i]? = some (Res.row kSl e w0.heap.size (.slice (some ad) n cap) xs)) (k : Nat) (hk : k < n) (s : Sl) :
  ∃ w1, (Instr.storeAt 35 (.pointer (some (ad.add k))) (slV s)).run Try.prog w = .ok () w1 ∧ Sp w0 (rs.set i (Res.row kSl e w0.heap.size (.slice (some ad) n cap) (xs.set k s))) w1 := by
 have h1 := Sp.rowStoreA (P := Try.prog) h hi k hk 35 (slV s) [slV s] rfl rfl (by kernel_rfl) (fun q hq => by rw [List.mem_singleton.1 hq]; rfl)
 have h2 := Sp.rowSetA h hi k hk s [slV s] rfl (fun okp => rfl)
 rw [show kSl.sz = 1 from rfl, Nat.mul_one] at h1 h2
 exact ⟨_, h1, h2⟩
end
def RdsI (w0 : World) (r : Res) (Aw : Option Addr) (way : List Int) : Prop := ∀ (fp : Nat → Prop) (w : World), Below w0.heap.size w0 w → r.P fp w → kI.C w Aw way.length way
theorem RdsI.row {w0 : World} {Aw : Option Addr} {e base n c : Nat} {way : List Int} : RdsI w0 (Res.row kI e base (.slice Aw n c) way) Aw way := fun fp w hb h => (Kd.R_reads' h).2.2
end Go.Proofs.Ytcobnlilmihjfaa.A

namespace Go.Proofs.Ytcobnlilmihjfaa.A
open Go.RowKit Go.Proofs.YtcobnlilmihjfaaW.PrintWords Go.Proofs.YtcobnlilmihjfaaW.PrintLast Go.Proofs.YtcobnlilmihjfaaW.PrintMore
set_option linter.unusedVariables false
set_option linter.unusedSimpArgs false
section
attribute [local go_sem] max2_int min2_int max_two min_two max_three min_three max_four min_four
def spec_l27Code.f (k : Nat) (l0_0 : List (List (S94))) (l1 : List (S94)) : Option (Int) := (spec_IsAssembly.f k l0_0).bind fun t564 => (if t564 = true then ((spec_l27Clear.f k l0_0 l1).bind fun t565 => (if t565 = true then (some 0) else (some 2))) else (some 1))
set_option maxHeartbeats 8000000 in
set_option maxRecDepth 100000 in
theorem spec_l27Code.calls (k : Nat) (A0_0 : Option Addr) (c0_0 : Nat) (l0_0 : List (List (S94))) (A1 : Option Addr) (c1 : Nat) (l1 : List (S94)) (r : Int) (w : World) (hr0_0 : Kd.C (Kd.slice 94 k94) w A0_0 l0_0.length l0_0) (hc0_0 : l0_0.length ≤ c0_0) (hr1 : Kd.C k94 w A1 l1.length l1) (hc1 : l1.length ≤ c1) (h : spec_l27Code.f k l0_0 l1 = some r) :
    Calls Try.prog 63 #[.agg #[.slice A0_0 l0_0.length c0_0], .slice A1 l1.length c1] w fun e w' => e = .returned (.int .i64 r) ∧ Below w.heap.size w w' := by
 (have hu26 := Try.underlying26); (have HR0_0 := A0_ hr0_0); (have HC0_0 := A0_ hc0_0); clear hr0_0 hc0_0; (have HR1 := A0_ hr1); (have HC1 := A0_ hc1); clear hr1 hc1; (have HB := A0_ (Below.refl w.heap.size w))
 have H : ((spec_IsAssembly.f k l0_0).bind fun t564 => (if t564 = true then ((spec_l27Clear.f k l0_0 l1).bind fun t565 => (if t565 = true then (some 0) else (some 2))) else (some 1))) = some r := h
 clear h; (replace H := Option.bind_eq_some_iff.mp H); (obtain ⟨t564, A30, H⟩ := H); (try dsimp only at H); (have A3 := A0_ A30); clear A30; (have H0_ := A0_ H); clear H; (go_enter Try.func63, Try.ntmps63); (go_wp2_with (first | ((with_reducible refine gate_dst (N := 2) rfl ?_); refine be_ (N := 2) (cs := #[.slice A0_0 l0_0.length c0_0]) (t := 26) ?_; intro gb563 hg w4 hbox hb; have n0_ := A0_ (below_step bw_ hb); have n1_ := A0_ (hbox); have n2_ := A0_ ((by rw [hg]; exact (below_size bw_) : w.heap.size ≤ gb563)); have n3_ := A0_ ((by rw [hg]; exact (below_size bw_) : w.heap.size ≤ gb563)); clear HB; have HB := n0_; have BK563 := n1_; have GW563 := n2_; have GE563 := n3_; clear n0_ n1_ n2_ n3_; clear hb hbox hg; have hcz5_0 : w4.cell? ⟨gb563, 0, none⟩ = some (.slice A0_0 l0_0.length c0_0) := (blk_cell BK563.out 0).trans rfl; have hfz5_0 := blk_frozen BK563.out 0) | ((with_reducible refine gate_callee (f := 55) rfl ?_); refine gl_ (some 6) Try.func55 #[.agg #[.slice A0_0 l0_0.length c0_0]] ?_; (with_reducible refine (spec_IsAssembly.calls k _ _ l0_0 t564 _ ?side1 ?side2 A3.out).mono ?_); (case side1 => exact kc_ (Kd.C_below HR0_0.out HB.out)); (case side2 => exact HC0_0.out); rintro e w6 ⟨rfl, hb⟩; refine ⟨_, rfl, ?_⟩; have n0_ := A0_ (blk_below (g := gb563) (o := .cells #[.slice A0_0 l0_0.length c0_0] 26 (0, 0)) (bk_ BK563) hb); have n1_ := A0_ (below_step bx_ hb); clear BK563; clear HB; have BK563 := n0_; have HB := n1_; clear n0_ n1_; (try clear hb); (try clear hb2); (try clear hk); (try clear hi); refine Stop0.out ?_))); (refine Stop0.mk ?_); (have H := H0_.out); clear H0_; (by_cases c7 : t564 = true)
 ·subst c7; (have H1 := H); (rw [if_pos rfl] at H1); clear H; (have H := H1); clear H1; (replace H := Option.bind_eq_some_iff.mp H); (obtain ⟨t565, A80, H⟩ := H); (try dsimp only at H); (have A8 := A0_ A80); clear A80; (have H0_ := A0_ H); clear H; (have hcz9_0 : w6.cell? ⟨gb563, 0, none⟩ = some (.slice A0_0 l0_0.length c0_0) := (blk_cell BK563.out 0).trans rfl); (have hfz9_0 := blk_frozen BK563.out 0); (go_wp2_with (first | ((with_reducible refine gate_callee (f := 88) rfl ?_); refine gl_ (some 10) Try.func88 #[.agg #[.slice A0_0 l0_0.length c0_0], .slice A1 l1.length c1] ?_; (with_reducible refine (spec_l27Clear.calls k _ _ l0_0 _ _ l1 t565 _ ?side1 ?side2 ?side3 ?side4 A8.out).mono ?_); (case side1 => exact kc_ (Kd.C_below HR0_0.out HB.out)); (case side2 => exact HC0_0.out); (case side3 => exact kc_ (Kd.C_below HR1.out HB.out)); (case side4 => exact HC1.out); rintro e w10 ⟨rfl, hb⟩; refine ⟨_, rfl, ?_⟩; have n0_ := A0_ (blk_below (g := gb563) (o := .cells #[.slice A0_0 l0_0.length c0_0] 26 (0, 0)) (bk_ BK563) hb); have n1_ := A0_ (below_step bx_ hb); clear BK563; clear HB; have BK563 := n0_; have HB := n1_; clear n0_ n1_; (try clear hb); (try clear hb2); (try clear hk); (try clear hi); refine Stop0.out ?_))); (refine Stop0.mk ?_); (have H := H0_.out); clear H0_; (by_cases c11 : t565 = true)
  ·subst c11; (have H1 := H); (rw [if_pos rfl] at H1); clear H; (have H := H1); clear H1; (obtain rfl := Option.some.inj H); go_wp2; go_ret; (exact ⟨er_, bx_⟩)
  ·(replace c11 := Bool.eq_false_iff.mpr c11); subst c11; (have H1 : (some 2) = some r := by rw [if_neg (show ¬ (false = true) by decide)] at H; exact H); clear H; (have H := H1); clear H1; (obtain rfl := Option.some.inj H); go_wp2; go_ret; (exact ⟨er_, bx_⟩)
 ·(replace c7 := Bool.eq_false_iff.mpr c7); subst c7; (have H1 : (some 1) = some r := by rw [if_neg (show ¬ (false = true) by decide)] at H; exact H); clear H; (have H := H1); clear H1; (obtain rfl := Option.some.inj H); go_wp2; go_ret; (exact ⟨er_, bx_⟩)
end
theorem code_ev {parts : List (List Cb)} (hz : SzOk parts) (offs : List Cb) : spec_l27Code.f 0 parts offs = some (codeP parts offs) := by
 unfold spec_l27Code.f
 have h1 : spec_IsAssembly.f 0 parts = some (asmP parts) := by unfold spec_IsAssembly.f; rw [if_pos ⟨hz.len, hz.each⟩, asm_same]
 rw [h1, Option.bind_some]
 unfold codeP
 by_cases a : asmP parts = true
 ·rw [if_pos a, if_pos a]
  have h2 : spec_l27Clear.f 0 parts offs = some (areOffP parts offs) := by
   unfold spec_l27Clear.f
   have := (asm_of a).1
   rw [if_pos ⟨by omega, hz.each, fun p hp => ((asm_of a).2 p hp).2⟩]
  rw [h2, Option.bind_some]
  split <;> rfl
 ·rw [if_neg a, if_neg a]
end Go.Proofs.Ytcobnlilmihjfaa.A

namespace Go.Proofs.Ytcobnlilmihjfaa.A
open Go.RowKit Go.Proofs.YtcobnlilmihjfaaW.PrintWords Go.Proofs.YtcobnlilmihjfaaW.PrintLast Go.Proofs.YtcobnlilmihjfaaW.PrintMore
set_option linter.unusedVariables false
set_option linter.unusedSimpArgs false
theorem tot2_le : ∀ (rows : List (List Cb)) (n : Nat), (∀ p ∈ rows, p.length ≤ n) → tot2 rows ≤ (n : Int) * (rows.length : Int)
 | [], n, _ => by simp [tot2]
 | r :: rs, n, h => by
  rw [tot2_cons]
  have h1 := tot2_le rs n (fun p hp => h p (List.mem_cons_of_mem _ hp))
  have h2 := h r List.mem_cons_self
  rw [List.length_cons, Int.natCast_add, Int.mul_add]
  omega
theorem small_ok {rows : List (List Cb)} (h1 : rows.length ≤ 8) (h2 : ∀ p ∈ rows, p.length ≤ 64) : SzOk rows := by
 refine ⟨by omega, fun r hr => by have := h2 r hr; omega, ?_⟩
 have := tot2_le rows 64 h2
 have h3 : (64 : Int) * (rows.length : Int) ≤ 512 := by omega
 omega
abbrev GSt := List Int × List Int × List (List Cb)
def namesP (n : Nat) : List Int := (List.range n).map fun (i : Nat) => (i : Int)
structure GOk (a : GSt) (n i : Nat) : Prop where
 nm : a.1.length = a.2.2.length
 out : a.2.1.length = i
 len : a.2.2.length + i = n
 sz : SzOk a.2.2
theorem GOk.start {parts : List (List Cb)} (hz : SzOk parts) : GOk (namesP parts.length, [], parts) parts.length 0 := ⟨by simp [namesP], rfl, rfl, hz⟩
end Go.Proofs.Ytcobnlilmihjfaa.A

namespace Go.Proofs.Ytcobnlilmihjfaa.A
open Go.RowKit Go.Proofs.YtcobnlilmihjfaaW.PrintWords Go.Proofs.YtcobnlilmihjfaaW.PrintLast Go.Proofs.YtcobnlilmihjfaaW.PrintMore
set_option linter.unusedVariables false
set_option linter.unusedSimpArgs false
def leaF.T4 : Bool × List (List Nat × List Nat) := (true, [([], []), ([], []), ([1], [1]), ([0, 2, 2], [0, 2]), ([3, 3, 0, 1, 2, 3], [3])])
def leaF.B4 : List Nat := [0, 0, 2, 7, 15]
theorem leaF.tab4 : rtab .any (opsOf Try.f54 4) = leaF.T4 := by kernel_rfl
theorem leaF.bits4 : waitsOk leaF.T4.2 leaF.B4 = true := by kernel_rfl
set_option maxHeartbeats 4000000 in
set_option maxRecDepth 100000 in
theorem leaves_calls (w0 : World) (Ap : Option Addr) (cp g gM : Nat) (parts : List (List Cb)) (hF : FrOk w0 Ap parts) (r : Res) (Ao : Addr) (co : Nat) (offs : List Cb) (hr : Rds w0 r (some Ao) offs) (hlo : offs.length = parts.length) (p : Nat) (hp : p < parts.length) (d : Int) (hd : 0 ≤ d ∧ d < 6) (rest : List Res) (w : World) (hs : Sp w0 ([frBlk g gM Ap cp parts, frMemo gM parts, r] ++ rest) w) :
  Calls Try.prog 54 #[.pointer (some ⟨g, 0, none⟩), .slice (some Ao) offs.length co, .int .i64 p, .int .i64 d] w fun e w' => e = .returned (.bool (leavesP parts offs p d)) ∧ Sp w0 ([frBlk g gM Ap cp parts, frMemo gM parts, r] ++ rest) w' := by
 have hu69 := Try.underlying94
 have HS := A0_ hs
 have HF := A0_ hF
 have HRD := A0_ hr
 have HLO := A0_ hlo
 have HP := A0_ hp
 have HVE := A0_ (fun w => vectorOf_calls d hd w)
 have q0 : (0 ≤ (p : Int)) = True := eq_true (by omega)
 have q1 : ((p : Int) < (offs.length : Int)) = True := eq_true (by omega)
 have q2 : (p < offs.length) = True := eq_true (by omega)
 obtain ⟨ad, e, hx0, hx1, hx2⟩ := at_T94 (Sp.rds hs (i := 2) rfl hr) (p : Int) (by omega) (by omega)
 injection e with e
 subst e
 rw [show rd_T94 offs (p : Int) = oAt offs p from rfl] at hx0 hx1 hx2
 rw [Int.toNat_natCast] at hx0 hx1 hx2
 have hlv : leavesP parts offs p d = (List.range 40).all fun j => aloneP parts offs p (stepO (oAt offs p) (vecP d) (j + 1)) := rfl
 obtain ⟨q0_, hq⟩ : ∃ q, q = oAt offs p := ⟨_, rfl⟩
 obtain ⟨v, hv⟩ : ∃ v, v = vecP d := ⟨_, rfl⟩
 rw [← hq] at hx0 hx1 hx2 hlv
 rw [← hv] at hlv HVE
 have HLV := A0_ hlv
 obtain ⟨R, hR⟩ : ∃ R, R = leavesP parts offs p d := ⟨_, rfl⟩
 rw [← hR] at HLV ⊢
 clear hs hF hr hlo hp hd hq hv hlv hR
 go_enter Try.func54, Try.ntmps54
 go_wp2
 obtain ⟨go, hg_⟩ : ∃ g_, g_ = (w).heap.size := ⟨_, rfl⟩; obtain ⟨wq, hw_⟩ : ∃ w_, w_ = (w).alloc (.cells #[.int .i64 q0_.f0, .int .i64 q0_.f1, .int .i64 q0_.f2] 94) := ⟨_, rfl⟩; (try rw [← hw_]); (try rw [← hg_]); have HS_ := A0_ (Sp.box HS.out #[.int .i64 q0_.f0, .int .i64 q0_.f1, .int .i64 q0_.f2] 94); rw [← hw_, ← hg_] at HS_; clear HS; have HS := HS_; clear HS_ hw_ hg_
 have HS_ := A0_ (Sp.arr (pre := [Res.blk go #[.int .i64 q0_.f0, .int .i64 q0_.f1, .int .i64 q0_.f2] 94, frBlk g gM Ap cp parts, frMemo gM parts, r]) (pre' := [frBlk g gM Ap cp parts, frMemo gM parts, r, Res.blk go #[.int .i64 q0_.f0, .int .i64 q0_.f1, .int .i64 q0_.f2] 94]) (rest := rest) [1, 2, 3, 0] HS.out rfl rfl)
 clear HS hx0 hx1 hx2
 have HS := HS_
 clear HS_
 go_loopg [14] 41 (fun kq v14 w' => ∃ (j : Nat) (q : Cb), v14 = .int .i64 (j : Int) ∧ Aside0 (j ≤ 40 ∧ kq + j = 41 ∧ q = stepO q0_ v j ∧ (List.range j).all (fun j => aloneP parts offs p (stepO q0_ v (j + 1))) = true) ∧ Aside0 (Sp w0 ([frBlk g gM Ap cp parts, frMemo gM parts, r, Res.blk go #[.int .i64 q.f0, .int .i64 q.f1, .int .i64 q.f2] 94] ++ rest) w'))
 case atStart => exact ⟨0, q0_, rfl, ⟨by omega, by omega, rfl, rfl⟩, HS⟩
 case round =>
  clear HS
  obtain ⟨j, q, rfl, HX, HS⟩ := hrel
  obtain ⟨k1, rfl⟩ : ∃ k1, gk = k1 + 1 := ⟨gk - 1, by have := HX.out; omega⟩
  by_cases cj : j < 40
  ·have cj0 : decide (j < 40) = true := decide_eq_true cj
   have cj1 : (j < 40) = True := eq_true cj
   have cj2 : decide ((j : Int) < 40) = true := decide_eq_true (by omega)
   have cj3 : ((j : Int) < 40) = True := eq_true (by omega)
   have HW := A0_ (wrap_succ j (by omega))
   have HNX := A0_ (all_next (fun j => aloneP parts offs p (stepO q0_ v (j + 1))) j HX.out.2.2.2)
   have HNO := A0_ (fun h => HLV.out.trans (all_no (fun j => aloneP parts offs p (stepO q0_ v (j + 1))) j 40 cj h))
   have hst : stepO q0_ v (j + 1) = addC q v := by rw [HX.out.2.2.1]; rfl
   rw [hst] at HNX HNO
   have HST := A0_ hst
   have HCJ := A0_ cj
   clear cj hst
   go_wp2
   replace HS := A0_ (show Sp w0 ([frBlk g gM Ap cp parts, frMemo gM parts, r, Res.blk go #[.int .i64 q.f0, .int .i64 q.f1, .int .i64 q.f2] 94] ++ rest) wr.drew from Sp.drew HS.out)
   refine start_ (n := 5) (S := fun w' => w'.cell? ⟨go, 0, none⟩ = some (.int .i64 q.f0) ∧ w'.cell? ⟨go, 1, none⟩ = some (.int .i64 q.f1) ∧ w'.cell? ⟨go, 2, none⟩ = some (.int .i64 q.f2)) (ds := [4]) #[false, false, false, false, false] (by kernel_rfl) rfl rfl (⟨(cl_ HS 3 0 rfl).trans rfl, (cl_ HS 3 1 rfl).trans rfl, (cl_ HS 3 2 rfl).trans rfl⟩) (fun hHeld => ?_)
   refine with_tabW leaF.tab4 leaF.bits4 (fun HT_ HW_ => ?_)
   generalize wr.drew = wD at HS hHeld ⊢
   refine tk_ 0 (some 16) ?_
   refine on_ 1 (some 17) ?_
   refine o1_ 2 (some 18) (fun K hK => ?_)
   refine gs_ Try.func82 #[.int .i64 d] ?_
   refine (HVE.out _).mono ?_
   rintro e wA11 ⟨rfl, hb⟩
   refine ⟨_, rfl, ?_⟩
   replace HS := A0_ (Sp.far HS.out hb)
   clear hb
   refine hK.out _ _ (⟨(cl_ HS 3 0 rfl).trans rfl, (cl_ HS 3 1 rfl).trans rfl, (cl_ HS 3 2 rfl).trans rfl⟩) (fun hHeld => ?_)
   clear hK K
   refine nm_ (some 18) ?_
   refine o1_ 3 (some 19) (fun K hK => ?_)
   refine gs_ Try.func81 #[.agg #[.int .i64 q.f0, .int .i64 q.f1, .int .i64 q.f2], .agg #[.int .i64 v.f0, .int .i64 v.f1, .int .i64 v.f2]] ?_
   refine (impl_plusCube.calls q.f0 q.f1 q.f2 v.f0 v.f1 v.f2 (addC q v).f0 (addC q v).f1 (addC q v).f2 _ rfl).mono ?_
   rintro e wA12 ⟨rfl, hb⟩
   refine ⟨_, rfl, ?_⟩
   replace HS := A0_ (Sp.far HS.out hb)
   clear hb
   refine hK.out _ _ (⟨(cl_ HS 3 0 rfl).trans rfl, (cl_ HS 3 1 rfl).trans rfl, (cl_ HS 3 2 rfl).trans rfl⟩) (fun hHeld => ?_)
   clear hK K
   refine nm_ (some 19) ?_
   refine ol_ 4 none (fun K hK => ?_)
   refine skip_ (w1 := wA12.setCells go 0 (#[.int .i64 (addC q v).f0, .int .i64 (addC q v).f1, .int .i64 (addC q v).f2] : Array Value).toList) (by rfl) rfl (exec_store (v := .pointer (some ⟨go, 0, none⟩)) (u := .agg #[.int .i64 (addC q v).f0, .int .i64 (addC q v).f1, .int .i64 (addC q v).f2]) rfl (by first | rfl | (go_simp; done) | (go_simp; rfl)) (by first | rfl | (go_simp; done) | (go_simp; rfl)) (Sp.blkStore HS.out (i := 3) rfl (.agg #[.int .i64 (addC q v).f0, .int .i64 (addC q v).f1, .int .i64 (addC q v).f2]) (#[.int .i64 (addC q v).f0, .int .i64 (addC q v).f1, .int .i64 (addC q v).f2]) rfl rfl (by kernel_rfl) (by first | (simp; done) | (simp [Value.oneCell']; done) | (simp; exact ⟨rfl, rfl, rfl⟩)))) ?_
   obtain ⟨wS13, hw_⟩ : ∃ w_, w_ = wA12.setCells go 0 (#[.int .i64 (addC q v).f0, .int .i64 (addC q v).f1, .int .i64 (addC q v).f2] : Array Value).toList := ⟨_, rfl⟩
   rw [← hw_]
   have HS_ := A0_ (Sp.blkAll HS.out (i := 3) rfl (#[.int .i64 (addC q v).f0, .int .i64 (addC q v).f1, .int .i64 (addC q v).f2]) rfl)
   rw [← hw_] at HS_
   clear HS
   have HS := HS_
   clear HS_ hw_
   refine hK.out _ _ ?_
   clear hK K
   refine dn_ ?_
   obtain ⟨o, ho⟩ : ∃ o, o = addC q v := ⟨_, rfl⟩
   rw [← ho] at HS HNX HNO HST
   clear ho
   have hg0 := (cl_ HS 3 0 rfl).trans rfl; have hg1 := (cl_ HS 3 1 rfl).trans rfl; have hg2 := (cl_ HS 3 2 rfl).trans rfl
   have HAL := A0_ (fun w2 hs => alone_calls w0 Ap cp g gM parts HF.out r (some Ao) co offs HRD.out (by have := HLO.out; omega) (p : Int) (by have := HP.out; omega) o ([Res.blk go #[.int .i64 o.f0, .int .i64 o.f1, .int .i64 o.f2] 94] ++ rest) w2 hs)
   cases ha : aloneP parts offs (p : Int) o with
   | false =>
    rw [ha] at HAL
    have HF2 := A0_ (HNO.out ha)
    clear ha HNX HNO
    go_wp2_with (first
     | (go_at_call 83; refine (HAL.out _ HS.out).mono ?_; rintro e wa_ ⟨rfl, hs_⟩; replace HS := A0_ (hs_); clear hs_ hg0 hg1 hg2))
    go_ret
    exact ⟨by rw [HF2.out]; rfl, Sp.out HS.out 3⟩
   | true =>
    rw [ha] at HAL
    have HN := A0_ (HNX.out.trans ha)
    clear ha HNX HNO
    go_wp2_with (first
     | (go_at_call 83; refine (HAL.out _ HS.out).mono ?_; rintro e wa_ ⟨rfl, hs_⟩; replace HS := A0_ (hs_); clear hs_ hg0 hg1 hg2))
    go_roundg k1
    case measure => omega
    case rel =>
     rw [HW.out]
     exact ⟨j + 1, o, rfl, ⟨by have := HCJ.out; omega, by have := HX.out; omega, HST.out.symm, HN.out⟩, HS⟩
  ·have cj0 : decide (j < 40) = false := decide_eq_false cj
   have cj1 : (j < 40) = False := eq_false cj
   have cj2 : decide ((j : Int) < 40) = false := decide_eq_false (by omega)
   have cj3 : ((j : Int) < 40) = False := eq_false (by omega)
   have hj : j = 40 := by have := HX.out; omega
   have HT := A0_ (HLV.out.trans (hj ▸ HX.out.2.2.2))
   clear cj hj
   go_wp2
   go_ret
   exact ⟨by rw [HT.out]; rfl, Sp.out HS.out 3⟩
set_option maxHeartbeats 4000000 in
set_option maxRecDepth 100000 in
theorem free_calls (w0 : World) (Ap : Option Addr) (cp g gM : Nat) (parts : List (List Cb)) (hF : FrOk w0 Ap parts) (r : Res) (Ao : Addr) (co : Nat) (offs : List Cb) (hr : Rds w0 r (some Ao) offs) (hlo : offs.length = parts.length) (rest : List Res) (w : World) (hs : Sp w0 ([frBlk g gM Ap cp parts, frMemo gM parts, r] ++ rest) w) :
  Calls Try.prog 45 #[.pointer (some ⟨g, 0, none⟩), .slice (some Ao) offs.length co] w fun e w' => ∃ A c, e = .returned (.slice A (freeP parts offs).length c) ∧ Sp w0 ([Res.row kI 2 w0.heap.size (.slice A (freeP parts offs).length c) (freeP parts offs), frBlk g gM Ap cp parts, frMemo gM parts, r] ++ rest) w' := by
 have HS := A0_ hs
 have HF := A0_ hF
 have HRD := A0_ hr
 have HLO := A0_ hlo
 have HFIN := A0_ (show freeP parts offs = freeK parts offs (6 * parts.length) from rfl)
 have h8 := hF.len
 obtain ⟨T, hT⟩ : ∃ T, T = 6 * parts.length := ⟨_, rfl⟩
 have e0 : wrap64 (6 * (parts.length : Int)) = (T : Int) := by rw [hT, wrap_id (by omega) (by omega)]; omega
 rw [← hT] at HFIN
 have HT := A0_ (show T ≤ 48 by omega)
 have HTP := A0_ hT
 have hg0 : w.cell? ⟨g, 0, none⟩ = some (.slice Ap parts.length cp) := (cl_ HS 0 0 rfl).trans rfl
 rw [HFIN.out]
 clear hs hF hr hlo h8 hT
 go_enter Try.func45, Try.ntmps45
 go_wp2_with (first
  | ((with_reducible refine gate_dst (N := 7) rfl ?_); refine Kd.R_lit kI _ 2 ?hg (N := 7) ?hd (xs := ([] : List Int)) (inner := []) (ok := fun _ => True) (okp := fun _ => True) ?hr ?hp (fun _ hk => hk) trivial (Below.refl _ _) (Nat.le_refl _) (by simp) ?_; (case hd => rfl); (case hg => rfl); (case hr => first | (go_simp; done) | (go_simp; rfl)); (case hp => exact (Reps.none _ _)); intro vl_ wl_ ho_ hb_ hg_ hn_; clear hg_ hn_; replace HS := A0_ (Sp.made' HS.out hb_ ho_); clear ho_ hb_; obtain ⟨Al, cl, ev_⟩ := Sp.slice HS.out (i := 0) rfl; subst ev_; have hg0 := (cl_ HS 1 0 rfl).trans rfl))
 rw [e0]
 go_loopg [14, 5] (T + 1) (fun kq v14 v5 w' => ∃ (m : Nat) (A : Option Addr) (c : Nat), v14 = .int .i64 (m : Int) ∧ v5 = .slice A (freeK parts offs m).length c ∧ Aside0 (m ≤ T ∧ kq + m = T + 1) ∧ Aside0 (Sp w0 ([frBlk g gM Ap cp parts, frMemo gM parts, r, Res.row kI 2 w0.heap.size (.slice A (freeK parts offs m).length c) (freeK parts offs m)] ++ rest) w'))
 case atStart =>
  refine ⟨0, Al, cl, rfl, rfl, ⟨by omega, by omega⟩, ⟨?_⟩⟩
  exact Sp.arr (pre := [Res.row kI 2 w0.heap.size (.slice Al ([] : List Int).length cl) ([] : List Int), frBlk g gM Ap cp parts, frMemo gM parts, r]) (rest := rest) [1, 2, 3, 0] HS.out rfl rfl
 case round =>
  clear HS
  obtain ⟨m, A, c, rfl, rfl, HX, HS⟩ := hrel
  obtain ⟨k1, rfl⟩ : ∃ k1, gk = k1 + 1 := ⟨gk - 1, by have := HX.out; omega⟩
  by_cases ck : m < T
  ·have ck0 : decide (m < T) = true := decide_eq_true ck
   have ck1 := eq_true ck
   have ck2 : decide ((m : Int) < (T : Int)) = true := decide_eq_true (by omega)
   have ck3 : ((m : Int) < (T : Int)) = True := eq_true (by omega)
   have HW := A0_ (wrap_succ m (by have := HT.out; omega))
   have HSC := A0_ (freeK_succ parts offs m)
   have HML := A0_ (freeK_len parts offs m)
   obtain ⟨pi, hpi⟩ : ∃ pi, pi = m / 6 := ⟨_, rfl⟩
   obtain ⟨di, hdi⟩ : ∃ di, di = m % 6 := ⟨_, rfl⟩
   have hm6 : m / 6 < parts.length := by have := HTP.out; omega
   rw [← hpi, ← hdi] at HSC
   have e1 : wrap64 ((m : Int) / 6) = (pi : Int) := by rw [wrap_id (by omega) (by have := HT.out; omega)]; omega
   have e2 : (m : Int) % 6 = (di : Int) := by omega
   have HLE := A0_ (fun rs w2 hs => leaves_calls w0 Ap cp g gM parts HF.out r Ao co offs HRD.out HLO.out pi (by omega) (di : Int) (by omega) rs w2 hs)
   clear hpi hdi hm6
   have HCK := A0_ ck
   clear ck
   cases hl : leavesP parts offs (pi : Int) (di : Int) with
   | false =>
    rw [hl] at HLE
    have HN := A0_ (show freeK parts offs (m + 1) = freeK parts offs m by rw [HSC.out, hl, if_neg (by simp), List.append_nil])
    clear hl HSC HML
    go_wp2_with (first
     | (go_at_call 54; refine (HLE.out _ _ HS.out).mono ?_; rintro e wt_ ⟨rfl, hs_⟩; replace HS := A0_ (hs_); clear hs_))
    go_roundg k1
    case measure => omega
    case rel =>
     rw [HW.out]
     refine ⟨m + 1, A, c, rfl, by rw [HN.out], ⟨by have := HCK.out; omega, by have := HX.out; omega⟩, ⟨?_⟩⟩
     rw [HN.out]
     exact HS.out
   | true =>
    rw [hl] at HLE
    have HN := A0_ (show freeK parts offs (m + 1) = freeK parts offs m ++ [(m : Int)] by rw [HSC.out, hl, if_pos rfl])
    clear hl HSC
    go_wp2_with (first
     | (go_at_call 54; refine (HLE.out _ _ HS.out).mono ?_; rintro e wt_ ⟨rfl, hs_⟩; replace HS := A0_ (hs_); clear hs_)
     | ((with_reducible refine gate_builtin (b := .append) (xs := #[.tmp 24, .tmp 26]) rfl ?_); at_builtin; obtain ⟨fp_, ho_, hf_, hc_⟩ := Sp.row HS.out (i := 3) rfl; refine Kd.R_append kI (w0 := w0) w0.heap.size rfl (.tmp 24) (.tmp 26) 28 2 (.int .i64 0) 8 rfl Try.underlying28 info2 rfl (by decide) (by omega) (.slice A (freeK parts offs m).length c) (freeK parts offs m) ((m : Int)) ([.int .i64 (m : Int)]) _ (fun _ => False) rfl rfl rfl (fun _ hk => hk.elim) (fun _ h => Or.inr h) ho_ HS.out.below HS.out.below.size ?aL ?_; (case aL => have := HML.out; have := HX.out; have := HT.out; omega); intro va_ wa_ ho hb hg hat; replace HS := A0_ (hc_ _ _ _ ho hg); clear ho hb hg hat hc_ hf_ ho_ fp_; obtain ⟨A2, c2_, ev_⟩ := Sp.slice HS.out (i := 3) rfl; subst ev_; rw [← HN.out] at HS))
    go_roundg k1
    case measure => omega
    case rel =>
     rw [HW.out]
     exact ⟨m + 1, A2, c2_, rfl, by rw [HN.out, List.length_append]; rfl, ⟨by have := HCK.out; omega, by have := HX.out; omega⟩, HS⟩
  ·have ck0 : decide (m < T) = false := decide_eq_false ck
   have ck1 := eq_false ck
   have ck2 : decide ((m : Int) < (T : Int)) = false := decide_eq_false (by omega)
   have ck3 : ((m : Int) < (T : Int)) = False := eq_false (by omega)
   have hm : m = T := by have := HX.out; omega
   have HS_ := A0_ (show Sp w0 ([Res.row kI 2 w0.heap.size (.slice A (freeK parts offs T).length c) (freeK parts offs T), frBlk g gM Ap cp parts, frMemo gM parts, r] ++ rest) wr by
    have h := HS.out
    rw [hm] at h
    exact Sp.arr (pre := [frBlk g gM Ap cp parts, frMemo gM parts, r, Res.row kI 2 w0.heap.size (.slice A (freeK parts offs T).length c) (freeK parts offs T)]) (rest := rest) [3, 0, 1, 2] h rfl rfl)
   have HM := A0_ hm
   clear HS hm ck
   have HS := HS_
   clear HS_
   go_wp2
   go_ret
   exact ⟨A, c, by first | rfl | (rw [HM.out]; rfl), HS.out⟩
def RdsP (w0 : World) (r : Res) (A : Option Addr) (pp : List (List Cb)) : Prop := ∀ (fp : Nat → Prop) (w : World), Below w0.heap.size w0 w → r.P fp w → kP.C w A pp.length pp
theorem Sp.rdsP {w0 w : World} {rs : List Res} {i : Nat} {r : Res} {A : Option Addr} {pp : List (List Cb)} (h : Sp w0 rs w) (hi : rs[i]? = some r) (hr : RdsP w0 r A pp) : kP.C w A pp.length pp := by
 obtain ⟨fp, hp, _⟩ := h.get hi
 exact hr fp w h.below hp
theorem next_at {w0 : World} {g : Nat} {c : List Int} (hc : CodeOk c) {p s : Int} (hS : SrcOk c p s) (n : Int) {rs : List Res} {i : Nat} (hi : rs[i]? = some (srcR w0 g c p s)) (w : World) (hs : Sp w0 rs w) :
  Calls Try.prog 57 #[.pointer (some ⟨g, 0, none⟩), .int .i64 n] w fun e w' => ∃ r p' s', e = .returned (.int .i64 r) ∧ (0 ≤ r ∧ (n ≤ 1 → r = 0) ∧ (1 < n → r < n)) ∧ SrcOk c p' s' ∧ Sp w0 (rs.set i (srcR w0 g c p' s')) w' := by
 refine (next_calls hc hS n (rs.eraseIdx i) w (Sp.front hs hi)).mono ?_
 rintro e w' ⟨r, p', s', rfl, h1, h2, h3⟩
 exact ⟨r, p', s', rfl, h1, h2, Sp.unfront (List.getElem?_eq_some_iff.1 hi).1 h3⟩
theorem next_nat {w0 : World} {g : Nat} {c : List Int} (hc : CodeOk c) {p s : Int} (hS : SrcOk c p s) (n : Nat) (hn : 0 < n) {rs : List Res} {i : Nat} (hi : rs[i]? = some (srcR w0 g c p s)) (w : World) (hs : Sp w0 rs w) :
  Calls Try.prog 57 #[.pointer (some ⟨g, 0, none⟩), .int .i64 (n : Int)] w fun e w' => ∃ (r : Nat) (p' s' : Int), e = .returned (.int .i64 (r : Int)) ∧ r < n ∧ SrcOk c p' s' ∧ Sp w0 (rs.set i (srcR w0 g c p' s')) w' := by
 refine (next_at hc hS n hi w hs).mono ?_
 rintro e w' ⟨r, p', s', rfl, h1, h2, h3⟩
 refine ⟨r.toNat, p', s', by rw [Int.toNat_of_nonneg h1.1], ?_, h2, h3⟩
 by_cases c : n = 1
 ·have := h1.2.1 (by omega); omega
 ·have := h1.2.2 (by omega); omega
theorem Sp.slCellV {w0 w : World} {rs : List Res} {i e base n c : Nat} {ad : Addr} {xs : List Sl} (h : Sp w0 rs w) (hi : rs[i]? = some (Res.row kSl e base (.slice (some ad) n c) xs)) (j : Nat) (hj : j < n) {s : Sl} (hs : xs.getD j (none, 0, 0) = s) : w.cell? (ad.add j) = some (.slice s.1 s.2.1 s.2.2) := by
 rw [← hs]; exact Sp.slCell h hi j hj
theorem Sp.slCell0V {w0 w : World} {rs : List Res} {i e base n c : Nat} {ad : Addr} {xs : List Sl} (h : Sp w0 rs w) (hi : rs[i]? = some (Res.row kSl e base (.slice (some ad) n c) xs)) (hj : 0 < n) {s : Sl} (hs : xs.getD 0 (none, 0, 0) = s) : w.cell? ad = some (.slice s.1 s.2.1 s.2.2) := by
 rw [← hs]; exact Sp.slCell0 h hi hj
theorem Sp.poolCube {w0 w : World} {rs : List Res} {i e base : Nat} {L : List (Sl × List Cb)} (h : Sp w0 rs w) (hi : rs[i]? = some (Res.poolG kC e base L)) {A : Option Addr} {n c : Nat} {o : List Cb} (hp : ((A, n, c), o) ∈ L) (j : Nat) (hj : j < o.length) :
  ∃ ad, A = some ad ∧ w.cell? (ad.add (j * 3)) = some (.int .i64 (cAt o j).f0) ∧ w.cell? ⟨(ad.add (j * 3)).block, (ad.add (j * 3)).off + 1, none⟩ = some (.int .i64 (cAt o j).f1) ∧ w.cell? ⟨(ad.add (j * 3)).block, (ad.add (j * 3)).off + 2, none⟩ = some (.int .i64 (cAt o j).f2) := by
 have hC : kC.C w A o.length o := (Sp.poolGC h hi hp).2.2
 obtain ⟨ad, e1, h0, h1, h2⟩ := at_T94 hC (j : Int) (by omega) (by omega)
 rw [Int.toNat_natCast] at h0 h1 h2
 exact ⟨ad, e1, h0, h1, h2⟩
theorem poolCubes {w0 w : World} {rs : List Res} {i e base : Nat} {L : List (Sl × List Cb)} (h : Sp w0 rs w) (hi : rs[i]? = some (Res.poolG kC e base L)) {adq : Addr} {n c : Nat} {o : List Cb} (hp : ((some adq, n, c), o) ∈ L) (j : Nat) (hj : j < o.length) :
  w.cell? (adq.add (j * 3)) = some (.int .i64 (cAt o j).f0) ∧ w.cell? ⟨(adq.add (j * 3)).block, (adq.add (j * 3)).off + 1, none⟩ = some (.int .i64 (cAt o j).f1) ∧ w.cell? ⟨(adq.add (j * 3)).block, (adq.add (j * 3)).off + 2, none⟩ = some (.int .i64 (cAt o j).f2) := by
 obtain ⟨ad, e, h1⟩ := Sp.poolCube h hi hp j hj
 injection e with e
 subst e
 exact h1
theorem map_fst_set {α β : Type} (L : List (α × β)) (k : Nat) (x : α × β) : (L.set k x).map Prod.fst = (L.map Prod.fst).set k x.1 := by rw [List.map_set]
end Go.Proofs.Ytcobnlilmihjfaa.A
