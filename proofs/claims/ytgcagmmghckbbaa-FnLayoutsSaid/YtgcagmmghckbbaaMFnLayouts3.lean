/- What the row of the law FnLayouts stands on, part 3. -/
import Derived.Test.YtgcagmmghckbbaaMFnLayouts2
/- HAND impl_from ((*impl.laying).from): the program's search for layouts comes to what its plain twin comes to, for any visit. -/
namespace Go.Proofs.Ytgcagmmghckbbaa.A
open Go.RowKit Go.Proofs.YtgcagmmghckbbaaW.PrintWords Go.Proofs.YtgcagmmghckbbaaW.PrintLast Go.Proofs.YtgcagmmghckbbaaW.PrintMore
set_option linter.unusedVariables false
set_option linter.unusedSimpArgs false
attribute [local go_sem high] eqA24
def impl_from.T4 : Bool × List (List Nat × List Nat) := (true, [([], []), ([], []), ([1], [1]), ([2], [2]), ([3], [3]), ([], []), ([5], [5]), ([6], [6]), ([7], [7]), ([4, 8], [4, 8]), ([9], [9]), ([0, 0, 1, 2, 3, 4, 5, 6, 7, 8, 9, 10], [0]), ([11, 0, 1, 2, 3, 4, 5, 6, 7, 8, 9, 10], [11]), ([12, 10, 9, 0, 1, 2, 3, 4, 5, 6, 7, 8, 9, 10], [10, 12])])
def impl_from.B4 : List Nat := [0, 0, 2, 6, 14, 0, 32, 96, 224, 510, 1022, 2047, 4095, 8191]
theorem impl_from.tab4 : rtab .any (opsOf Try.f79 4) = impl_from.T4 := by kernel_rfl
theorem impl_from.bits4 : waitsOk impl_from.T4.2 impl_from.B4 = true := by kernel_rfl
def impl_from.T12 : Bool × List (List Nat × List Nat) := (true, [([], []), ([0], [0]), ([1], [1]), ([2], [2]), ([], []), ([3, 4], [3, 4]), ([5], [5]), ([6], [6]), ([7], [7]), ([7], [7]), ([7], [7]), ([8, 9, 10, 7, 7], [7, 8, 9, 10]), ([7, 11], [7, 11]), ([12, 11], [12]), ([13], [13]), ([13], [13]), ([15, 13], [13, 15]), ([16, 13], [13, 16]), ([17, 13], [13, 17]), ([13], [13]), ([19, 13], [13, 19]), ([20, 13], [13, 20]), ([21, 13], [13, 21]), ([13], [13]), ([23, 13], [13, 23]), ([24, 13], [13, 24]), ([25, 13], [13, 25]), ([14, 18, 22, 26, 13, 13], [13, 14, 18, 22, 26]), ([27, 13], [13, 27]), ([13, 28], [13, 28])])
def impl_from.B12 : List Nat := [0, 1, 3, 7, 0, 31, 63, 127, 255, 255, 255, 2047, 4095, 8191, 16383, 16383, 49151, 114687, 245759, 16383, 540671, 1589247, 3686399, 16383, 8404991, 25182207, 58736639, 134217727, 268435455, 536870911]
theorem impl_from.tab12 : rtab .any (opsOf Try.f79 12) = impl_from.T12 := by kernel_rfl
theorem impl_from.bits12 : waitsOk impl_from.T12.2 impl_from.B12 = true := by kernel_rfl
def impl_from.T14 : Bool × List (List Nat × List Nat) := (true, [([], []), ([], []), ([1], [1]), ([2], [2]), ([3], [3]), ([], []), ([5], [5]), ([4, 6], [4, 6]), ([0, 0, 1, 2, 3, 4, 5, 6, 7], [0]), ([8, 0, 1, 2, 3, 4, 5, 6, 7], [8]), ([9, 7, 7, 0, 1, 2, 3, 4, 5, 6, 7], [7, 9])])
def impl_from.B14 : List Nat := [0, 0, 2, 6, 14, 0, 32, 126, 255, 511, 1023]
theorem impl_from.tab14 : rtab .any (opsOf Try.f79 14) = impl_from.T14 := by kernel_rfl
theorem impl_from.bits14 : waitsOk impl_from.T14.2 impl_from.B14 = true := by kernel_rfl
def impl_from.T18 : Bool × List (List Nat × List Nat) := (true, [([], []), ([], []), ([1], [1]), ([2], [2]), ([3], [3]), ([], []), ([5], [5]), ([6], [6]), ([7], [7]), ([8], [8]), ([9], [9]), ([4, 10], [4, 10]), ([0, 0, 1, 2, 3, 4, 5, 6, 7, 8, 9, 10, 11], [0]), ([12, 0, 1, 2, 3, 4, 5, 6, 7, 8, 9, 10, 11], [12]), ([13, 11, 0, 1, 2, 3, 4, 5, 6, 7, 8, 9, 10, 11], [11, 13])])
def impl_from.B18 : List Nat := [0, 0, 2, 6, 14, 0, 32, 96, 224, 480, 992, 2046, 4095, 8191, 16383]
theorem impl_from.tab18 : rtab .any (opsOf Try.f79 18) = impl_from.T18 := by kernel_rfl
theorem impl_from.bits18 : waitsOk impl_from.T18.2 impl_from.B18 = true := by kernel_rfl
def impl_from.T19 : Bool × List (List Nat × List Nat) := (true, [([], []), ([], []), ([1], [1]), ([2], [2]), ([3], [3]), ([], []), ([5], [5]), ([6], [6]), ([7], [7]), ([8], [8]), ([9], [9]), ([4, 10], [4, 10]), ([0, 0, 1, 2, 3, 4, 5, 6, 7, 8, 9, 10, 11], [0]), ([12, 0, 1, 2, 3, 4, 5, 6, 7, 8, 9, 10, 11], [12]), ([13, 11, 0, 1, 2, 3, 4, 5, 6, 7, 8, 9, 10, 11], [11, 13])])
def impl_from.B19 : List Nat := [0, 0, 2, 6, 14, 0, 32, 96, 224, 480, 992, 2046, 4095, 8191, 16383]
theorem impl_from.tab19 : rtab .any (opsOf Try.f79 19) = impl_from.T19 := by kernel_rfl
theorem impl_from.bits19 : waitsOk impl_from.T19.2 impl_from.B19 = true := by kernel_rfl
theorem lay_blk_keep {W W1 : World} {g gn : Nat} {cs : Array Value} (hb : W.heap[g]? = some (.cells cs 92 (0, 0))) (hk : KeepBut W W1 gn none) (hn : ∃ cs t, W.heap[gn]? = some (.cells cs t (0, 0)) ∧ (t = 2 ∨ t = 51)) : W1.heap[g]? = some (.cells cs 92 (0, 0)) :=
  (hk.2 g (blk_lt hb) (by
    rintro rfl
    obtain ⟨cs', t', hc', ht'⟩ := hn
    rw [hb] at hc'
    injection hc' with hc'
    injection hc' with _ hc' _
    subst hc'
    revert ht'
    decide) (by simp)).trans hb
theorem set_back (l : List Bool) (i : Nat) (h : l.getD i false = false) (hi : i < l.length) : l.set i false = l := by
 (apply List.ext_getElem (by simp)); intro n h1 h2; (rw [List.getElem_set]); (split)
 ·(rename_i e); subst e; (have : l.getD i false = l[i] := by simp [List.getD, h2]); (rw [← this, h])
 ·rfl
theorem fits_at (pl : List Tl) (t : Tl) (w h : Int) (h1 : 1 ≤ w) (h6 : w ≤ 6) (hh1 : 1 ≤ h) (hh6 : h ≤ 6) (hl : pl.length ≤ 1048576) (hp : pl.all okT = true) (ht : okT t = true) : ∃ k, impl_fits.f k t.f0 t.f1 t.f2 t.f3 pl w h = some (fitsV pl t w h) :=
  (fits_ev pl t w h h1 h6 hh1 hh6 hl hp ht).elim fun K hK => ⟨K, hK K (Nat.le_refl _)⟩
set_option maxHeartbeats 8000000 in
set_option maxRecDepth 100000 in
theorem impl_from.calls' {α : Type} (Vis : α → Bool → World → Prop) (step : α → List St → α × Bool) (vf : Value) (tiles : List Tl) (wd h : Int) (hc : codeV tiles wd h = 0) (w0 : World) (V : VisOk Vis w0 vf step) (g : Nat) (d : Nat) :
    ∀ (used : List Bool) (laid : List Tl) (layout : List St) (s : LS α) (w : World), laid.length + d = tiles.length → used.length = tiles.length → layout.length = laid.length → laid.all okT = true → (0 ≤ s.steps ∧ s.steps ≤ 5000) → s.ended = false → s.broken = false →
      Below w0.heap.size w0 w → IsLay w0 w g vf tiles wd h used laid layout s.steps false false → Vis s.a false w →
      Calls Try.prog 79 #[.pointer (some ⟨g, 0, none⟩)] w fun e w' => e = .returned (.tuple #[]) ∧ IsLay w0 w' g vf tiles wd h used laid layout (fromL step tiles wd h d used laid layout s).steps (fromL step tiles wd h d used laid layout s).ended (fromL step tiles wd h d used laid layout s).broken ∧ Vis (fromL step tiles wd h d used laid layout s).a (fromL step tiles wd h d used laid layout s).ended w' ∧ Below w0.heap.size w0 w' := by
 (have hu24 := Try.underlying24); (have hu92 := Try.underlying92); (have hu74 := Try.underlying74); (obtain ⟨f, fn, caps, rfl, hfn, hnm, hbd, hcall⟩ := V.call); (obtain ⟨hok, hw1, hw6, hh1, hh6, _, hn12⟩ := codeV_zero hc)
 induction d with
 | zero =>
  intro used laid layout s w hd hul hyl hlo hst hse hsb hB0 hI hV; (have HV := A0_ hV); (have HB := A0_ hB0); (have HI := A0_ hI); (have HS := A0_ hst); (have HD := A0_ hd); (have HUL := A0_ hul); (have HYL := A0_ hyl); clear hd hul hyl hst; (obtain ⟨A0, c0, Au, cu, Al, cl, Ay, cy, hg_, hg0_, hC_, hU_, hL_, hY_⟩ := hI); (have HG := A0_ hg_); (have hg0 := A0_ hg0_); (have HC := A0_ hC_); (have HU := A0_ hU_); (have HL := A0_ hL_); (have HY := A0_ hY_); (have h0 := (blk_cell hg_ 0).trans rfl); (have h4 := (blk_cell hg_ 4).trans rfl); (have h6 := (blk_cell hg_ 6).trans rfl); (have h9 := (blk_cell hg_ 9).trans rfl); (have z6 := blk_frozen hg_ 6); (have z9 := blk_frozen hg_ 9); clear hg_ hg0_ hC_ hU_ hL_ hY_ hB0 hV; (by_cases c : s.steps = 5000)
  ·(have cb : (s.steps == 5000) = true := beq_iff_eq.2 c); (have e : fromL step tiles wd h 0 used laid layout s = ⟨s.steps, s.ended, true, s.a⟩ := by unfold fromL; rw [if_pos c]); (rw [e, hse]); (go_enter Try.func79, Try.ntmps79); go_wp2; (first | go_end0 | ((try simp only [Exit.inBlock, Exit.then]); refine bodyPost_ret (results_none rfl _ _ _) rfl ?_)); (exact ⟨rfl, IsLay.set9 HI.out true, V.set (p := ⟨g, 9, none⟩) _ HV.out HG.out (.inl rfl), below_set HB.out hg0.out⟩)
  ·(have cb : (s.steps == 5000) = false := beq_eq_false_iff_ne.2 c); (have e : fromL step tiles wd h 0 used laid layout s = ⟨s.steps + 1, !(step s.a layout).2, s.broken, (step s.a layout).1⟩ := by unfold fromL; rw [if_neg c]); (rw [e, hsb]); (have hw : wrap64 (s.steps + 1) = s.steps + 1 := by have := HS.out; unfold wrap64; omega); (have e0 : ((laid.length : Int) == (tiles.length : Int)) = true := beq_iff_eq.2 (by have := HD.out; omega)); (have e1 : (laid.length == tiles.length) = true := beq_iff_eq.2 (by have := HD.out; omega)); (go_enter Try.func79, Try.ntmps79); go_wp2; (repeat (go_quiet (fail); try go_wp2)); (have z_HU := A0_ (lay_self (A0 := none) HG.out HU.out (by decide) 6 (.int .i64 (s.steps + 1)))); (have z_HL := A0_ (lay_self (A0 := none) HG.out HL.out (by decide) 6 (.int .i64 (s.steps + 1)))); (have z_HY := A0_ (lay_self (A0 := none) HG.out HY.out (by decide) 6 (.int .i64 (s.steps + 1)))); (have z_HV := A0_ (V.set (p := ⟨g, 6, none⟩) (.int .i64 (s.steps + 1)) HV.out HG.out (.inl rfl))); (have z_HB := A0_ (below_set (g := g) (j := 6) (v := .int .i64 (s.steps + 1)) HB.out hg0.out)); clear HU HL HY HV HB; (have HU := z_HU); (have HL := z_HL); (have HY := z_HY); (have HV := z_HV); (have HB := z_HB); clear z_HU z_HL z_HY z_HV z_HB; (have z_HG := A0_ (blk_put (cs' := #[.slice A0 tiles.length c0, .int .i64 wd, .int .i64 h, .slice Au used.length cu, .slice Al laid.length cl, .slice Ay layout.length cy, .int .i64 (s.steps + 1), .func (.func f) #[] caps, .bool false, .bool false]) HG.out 6 (.int .i64 (s.steps + 1)) rfl)); clear HG; (have HG := z_HG); clear z_HG; (have z_HG := A0_ (blk_below HG.out (pw_below_drewN (Below.refl _ _) nq))); (have z_HU := A0_ (Kd.R_below HU.out (pw_below_drewN (Below.refl _ _) nq))); (have z_HL := A0_ (Kd.R_below HL.out (pw_below_drewN (Below.refl _ _) nq))); (have z_HY := A0_ (Kd.R_below HY.out (pw_below_drewN (Below.refl _ _) nq))); (have z_HV := A0_ (V.below HV.out (pw_below_drewN (Below.refl _ _) nq))); (have z_HB := A0_ (below_step HB.out (pw_below_drewN (Below.refl _ _) nq))); clear HG HU HL HY HV HB; (have HG := z_HG); (have HU := z_HU); (have HL := z_HL); (have HY := z_HY); (have HV := z_HV); (have HB := z_HB); clear z_HG z_HU z_HL z_HY z_HV z_HB; (have z_HG := A0_ (blk_below HG.out (below_drew (Below.refl _ _)))); (have z_HU := A0_ (Kd.R_below HU.out (below_drew (Below.refl _ _)))); (have z_HL := A0_ (Kd.R_below HL.out (below_drew (Below.refl _ _)))); (have z_HY := A0_ (Kd.R_below HY.out (below_drew (Below.refl _ _)))); (have z_HV := A0_ (V.below HV.out (below_drew (Below.refl _ _)))); (have z_HB := A0_ (below_step HB.out (below_drew (Below.refl _ _)))); clear HG HU HL HY HV HB; (have HG := z_HG); (have HU := z_HU); (have HL := z_HL); (have HY := z_HY); (have HV := z_HV); (have HB := z_HB); clear z_HG z_HU z_HL z_HY z_HV z_HB
   refine start_ (n := 14) (S := fun w' => w'.cell? ⟨g, 7, none⟩ = some (.func (.func f) #[] caps) ∧ w'.cell? ⟨g, 5, none⟩ = some (.slice Ay layout.length cy)) (ds := [13]) #[ff,ff,ff,ff,ff,ff,ff,ff,ff,ff,ff,ff,ff,ff] (by kernel_rfl) rfl rfl ⟨(blk_cell HG.out 7).trans rfl, (blk_cell HG.out 5).trans rfl⟩ (fun hHeld => ?_)
   refine with_tabW impl_from.tab4 impl_from.bits4 (fun HT_ HW_ => ?_)
   refine pure_ (i := 0) (N := some 31) (v := ?_) (a' := ?_) #[tt,ff,ff,ff,ff,ff,ff,ff,ff,ff,ff,ff,ff,ff] rfl rfl (any_of HT_.out (by kernel_rfl)) (fun _ _ _ h => h) (Or.inl ⟨by rfl, ?_⟩) ?_ ?_
   rotate_left
   ·intro w'; go_simp; with_reducible rfl
   rotate_left
   ·(simp only [Act.put, sia_, sz_, ss_, i64_w, i32_w]); rfl
   refine pure_ (i := 1) (N := some 32) (v := ?_) (a' := ?_) #[tt,tt,ff,ff,ff,ff,ff,ff,ff,ff,ff,ff,ff,ff] rfl rfl (any_of HT_.out (by kernel_rfl)) (fun _ _ _ h => h) (Or.inl ⟨by rfl, ?_⟩) ?_ ?_
   rotate_left
   ·intro w'; go_simp; with_reducible rfl
   rotate_left
   ·(simp only [Act.put, sia_, sz_, ss_, i64_w, i32_w]); rfl
   refine pure_ (i := 2) (N := some 33) (v := ?_) (a' := ?_) #[tt,tt,tt,ff,ff,ff,ff,ff,ff,ff,ff,ff,ff,ff] rfl rfl (any_of HT_.out (by kernel_rfl)) (fun _ _ _ h => h) (Or.inl ⟨by rfl, ?_⟩) ?_ ?_
   rotate_left
   ·intro w'; go_simp; with_reducible rfl
   rotate_left
   ·(simp only [Act.put, sia_, sz_, ss_, i64_w, i32_w]); rfl
   refine pure_ (i := 3) (N := some 34) (v := ?_) (a' := ?_) #[tt,tt,tt,tt,ff,ff,ff,ff,ff,ff,ff,ff,ff,ff] rfl rfl (any_of HT_.out (by kernel_rfl)) (fun _ _ _ h => h) (Or.inl ⟨by rfl, ?_⟩) ?_ ?_
   rotate_left
   ·intro w'; go_simp; with_reducible rfl
   rotate_left
   ·(simp only [Act.put, sia_, sz_, ss_, i64_w, i32_w]); rfl
   refine take_ (i := 4) (N := some 35) (v := ?_) (a' := ?_) #[tt,tt,tt,tt,tt,ff,ff,ff,ff,ff,ff,ff,ff,ff] rfl rfl (take_ofW HT_.out HW_.out (by kernel_rfl)) (fun _ _ _ h => h) (Or.inl ⟨by rfl, ?_⟩) hHeld ?_ ?_
   rotate_left
   ·(rintro w' ⟨s0, s1⟩); go_simp; with_reducible rfl
   rotate_left
   ·(simp only [Act.put, sia_, sz_, ss_, i64_w, i32_w]); rfl
   refine pure_ (i := 5) (N := some 36) (v := ?_) (a' := ?_) #[tt,tt,tt,tt,tt,tt,ff,ff,ff,ff,ff,ff,ff,ff] rfl rfl (any_of HT_.out (by kernel_rfl)) (fun _ _ _ h => h) (Or.inl ⟨by rfl, ?_⟩) ?_ ?_
   rotate_left
   ·intro w'; go_simp; with_reducible rfl
   rotate_left
   ·(simp only [Act.put, sia_, sz_, ss_, i64_w, i32_w]); rfl
   refine pure_ (i := 6) (N := some 37) (v := ?_) (a' := ?_) #[tt,tt,tt,tt,tt,tt,tt,ff,ff,ff,ff,ff,ff,ff] rfl rfl (any_of HT_.out (by kernel_rfl)) (fun _ _ _ h => h) (Or.inl ⟨by rfl, ?_⟩) ?_ ?_
   rotate_left
   ·intro w'; go_simp; with_reducible rfl
   rotate_left
   ·(simp only [Act.put, sia_, sz_, ss_, i64_w, i32_w]); rfl
   refine pure_ (i := 7) (N := some 38) (v := ?_) (a' := ?_) #[tt,tt,tt,tt,tt,tt,tt,tt,ff,ff,ff,ff,ff,ff] rfl rfl (any_of HT_.out (by kernel_rfl)) (fun _ _ _ h => h) (Or.inl ⟨by rfl, ?_⟩) ?_ ?_
   rotate_left
   ·intro w'; go_simp; with_reducible rfl
   rotate_left
   ·(simp only [Act.put, sia_, sz_, ss_, i64_w, i32_w]); rfl
   refine take_ (i := 8) (N := some 39) (v := ?_) (a' := ?_) #[tt,tt,tt,tt,tt,tt,tt,tt,tt,ff,ff,ff,ff,ff] rfl rfl (take_ofW HT_.out HW_.out (by kernel_rfl)) (fun _ _ _ h => h) (Or.inl ⟨by rfl, ?_⟩) hHeld ?_ ?_
   rotate_left
   ·(rintro w' ⟨s0, s1⟩); go_simp; with_reducible rfl
   rotate_left
   ·(simp only [Act.put, sia_, sz_, ss_, i64_w, i32_w]); rfl
   refine one_ (i := 9) (N := some 40) #[tt,tt,tt,tt,tt,tt,tt,tt,tt,tt,ff,ff,ff,ff] rfl rfl (one_of HT_.out (by kernel_rfl)) (by decide) (fun K hK => ?_)
   (refine goesV_ hfn hnm hbd #[.slice Ay layout.length cy] (by rfl) rfl rfl rfl (by (try simp only [List.map_toArray, List.map_cons, List.map_nil]); first | done | rfl | (simp only [List.length_drop, List.length_take]; rfl)) ?_); (refine (hcall s.a layout Ay cy _ HV.out HB.out HY.out (by have := HYL.out; have := HD.out; omega)).mono ?_); (rintro e w1 ⟨rfl, hv, hb, gn, hk, hgn⟩); (refine ⟨_, rfl, ?_⟩); (have HG1 := A0_ (lay_blk_keep HG.out hk hgn)); (have HI1 := A0_ (IsLay.keep (show IsLay w0 _ g (.func (.func f) #[] caps) tiles wd h used laid layout (s.steps + 1) false false from ⟨A0, c0, Au, cu, Al, cl, Ay, cy, HG.out, hg0.out, HC.out, HU.out, HL.out, HY.out⟩) hk hgn)); (have HV1 := A0_ hv); (have HB1 := A0_ hb); clear hv hb hk hgn
   refine hK.out _ _ ⟨(blk_cell HG1.out 7).trans rfl, (blk_cell HG1.out 5).trans rfl⟩ (fun hHeld => ?_)
   clear hK K; (refine norm_ (a' := ?_) ?_ ?_); rotate_left
   ·(show Act.put _ (some 40) _ = _); (simp only [Act.put, sia_, sz_, ss_, i64_w, i32_w]); rfl
   refine pure_ (i := 10) (N := some 41) (v := ?_) (a' := ?_) #[tt,tt,tt,tt,tt,tt,tt,tt,tt,tt,tt,ff,ff,ff] rfl rfl (any_of HT_.out (by kernel_rfl)) (fun _ _ _ h => h) (Or.inl ⟨by rfl, ?_⟩) ?_ ?_
   rotate_left
   ·intro w'; go_simp; with_reducible rfl
   rotate_left
   ·(simp only [Act.put, sia_, sz_, ss_, i64_w, i32_w]); rfl
   refine pure_ (i := 11) (N := some 42) (v := ?_) (a' := ?_) #[tt,tt,tt,tt,tt,tt,tt,tt,tt,tt,tt,tt,ff,ff] rfl rfl (any_of HT_.out (by kernel_rfl)) (fun _ _ _ h => h) (Or.inl ⟨by rfl, ?_⟩) ?_ ?_
   rotate_left
   ·intro w'; go_simp; with_reducible rfl
   rotate_left
   ·(simp only [Act.put, sia_, sz_, ss_, i64_w, i32_w]); rfl
   refine pure_ (i := 12) (N := some 43) (v := ?_) (a' := ?_) #[tt,tt,tt,tt,tt,tt,tt,tt,tt,tt,tt,tt,tt,ff] rfl rfl (any_of HT_.out (by kernel_rfl)) (fun _ _ _ h => h) (Or.inl ⟨by rfl, ?_⟩) ?_ ?_
   rotate_left
   ·intro w'; go_simp; with_reducible rfl
   rotate_left
   ·(simp only [Act.put, sia_, sz_, ss_, i64_w, i32_w]); rfl
   refine last_ (i := 13) (N := none) #[tt,tt,tt,tt,tt,tt,tt,tt,tt,tt,tt,tt,tt,tt] rfl rfl (one_of HT_.out (by kernel_rfl)) (by decide) (fun K hK => ?_)
   (have hz8 := blk_frozen HG1.out 8); (have hy8 : w1.cell? ⟨g, 8, none⟩ = some (.bool false) := (blk_cell HG1.out 8).trans rfl); (refine skip_ (w1 := w1.setCell ⟨g, 8, none⟩ (.bool (!(step s.a layout).2))) (by rfl) rfl (by first | (go_simp; done) | (go_simp; rfl)) ?_); (refine hK.out _ _ ?_); clear hK K; (refine done_ (done_of HT_.out (by kernel_rfl)) ?_); (try go_wp2); (first | go_end0 | ((try simp only [Exit.inBlock, Exit.then]); refine bodyPost_ret (results_none rfl _ _ _) rfl ?_)); (exact ⟨rfl, IsLay.set8 HI1.out _, V.set (p := ⟨g, 8, none⟩) _ HV1.out HG1.out (.inl rfl), below_set HB1.out hg0.out⟩)
 | succ d ih =>
  intro used laid layout s w hd hul hyl hlo hst hse hsb hB0 hI hV; (have IH := A0_ ih); clear ih; (have HV := A0_ hV); (have HB := A0_ hB0); (have HI := A0_ hI); (have HS := A0_ hst); (have HD := A0_ hd); (have HUL := A0_ hul); (have HYL := A0_ hyl); clear hd hul hyl hst; (obtain ⟨A0, c0, Au, cu, Al, cl, Ay, cy, hg_, hg0_, hC_, hU_, hL_, hY_⟩ := hI); (have HG := A0_ hg_); (have hg0 := A0_ hg0_); (have h0 := (blk_cell hg_ 0).trans rfl); (have h4 := (blk_cell hg_ 4).trans rfl); (have h6 := (blk_cell hg_ 6).trans rfl); (have h9 := (blk_cell hg_ 9).trans rfl); (have z6 := blk_frozen hg_ 6); (have z9 := blk_frozen hg_ 9); clear hg_ hg0_ hC_ hU_ hL_ hY_ hB0 hV; (by_cases c : s.steps = 5000)
  ·(have cb : (s.steps == 5000) = true := beq_iff_eq.2 c); (have e : fromL step tiles wd h (d + 1) used laid layout s = ⟨s.steps, s.ended, true, s.a⟩ := by unfold fromL; rw [if_pos c]); (rw [e, hse]); (go_enter Try.func79, Try.ntmps79); go_wp2; (first | go_end0 | ((try simp only [Exit.inBlock, Exit.then]); refine bodyPost_ret (results_none rfl _ _ _) rfl ?_)); (exact ⟨rfl, IsLay.set9 HI.out true, V.set (p := ⟨g, 9, none⟩) _ HV.out HG.out (.inl rfl), below_set HB.out hg0.out⟩)
  ·(have cb : (s.steps == 5000) = false := beq_eq_false_iff_ne.2 c)
   have e : fromL step tiles wd h (d + 1) used laid layout s = outerL tiles wd h (fromL step tiles wd h d) used laid layout (tiles.length - 0) ⟨s.steps + 1, s.ended, s.broken, s.a⟩ := by
    conv => lhs; unfold fromL
    (rw [if_neg c]; rfl)
   (rw [e, hse, hsb]); (obtain ⟨R, hR⟩ : ∃ R, R = outerL tiles wd h (fromL step tiles wd h d) used laid layout (tiles.length - 0) ⟨s.steps + 1, false, false, s.a⟩ := ⟨_, rfl⟩); (rw [← hR]); (have HR := A0_ hR.symm); clear hR e; (have hw : wrap64 (s.steps + 1) = s.steps + 1 := by have := HS.out; unfold wrap64; omega); (have e0 : ((laid.length : Int) == (tiles.length : Int)) = false := beq_eq_false_iff_ne.2 (by have := HD.out; omega)); (have e1 : (laid.length == tiles.length) = false := beq_eq_false_iff_ne.2 (by have := HD.out; omega)); (have HN := A0_ hn12); (have NL := A0_ (show laid.length ≤ 12 by have := HD.out; omega)); (have NY := A0_ (show layout.length ≤ 12 by have := HD.out; have := HYL.out; omega)); (have HI1 := A0_ (IsLay.set6 HI.out (s.steps + 1))); (have HV1 := A0_ (V.set (p := ⟨g, 6, none⟩) (.int .i64 (s.steps + 1)) HV.out HG.out (.inl rfl))); (have HB1 := A0_ (below_set (g := g) (j := 6) (v := .int .i64 (s.steps + 1)) HB.out hg0.out)); clear HI HV HB HG; (go_enter Try.func79, Try.ntmps79); go_wp2; (repeat (go_quiet (fail); try go_wp2))
   go_loopg [49] (tiles.length + 1) (fun kq v49 w' => ∃ (x : Int) (s' : LS α), v49 = .int .i64 x ∧ Aside0 (0 ≤ x ∧ x ≤ tiles.length ∧ kq + x.toNat = tiles.length + 1) ∧ Aside0 (s'.ended = false ∧ s'.broken = false ∧ 0 ≤ s'.steps ∧ s'.steps ≤ 5000) ∧ Aside0 (outerL tiles wd h (fromL step tiles wd h d) used laid layout (tiles.length - x.toNat) s' = R) ∧ Aside0 (IsLay w0 w' g (.func (.func f) #[] caps) tiles wd h used laid layout s'.steps false false) ∧ Aside0 (Vis s'.a false w') ∧ Aside0 (Below w0.heap.size w0 w'))
   case atStart => exact ⟨0, ⟨s.steps + 1, false, false, s.a⟩, rfl, ⟨by omega, by omega, by simp⟩, ⟨rfl, rfl, by show 0 ≤ s.steps + 1; have := HS.out; omega, by show s.steps + 1 ≤ 5000; have := HS.out; omega⟩, HR, ⟨IsLay.drewN HI1.out _⟩, ⟨V.below HV1.out (pw_below_drewN (Below.refl _ _) _)⟩, ⟨pw_below_drewN HB1.out _⟩⟩
   case round =>
    clear h0 h4 h6 h9 z6 z9 HI1 HV1 HB1 cb c e0 e1 hw HR; (obtain ⟨x, s1, rfl, HX, HS1, HR, HI, HV, HB⟩ := hrel); (obtain ⟨k1, rfl⟩ : ∃ k1, gk = k1 + 1 := ⟨gk - 1, by have := HX.out; omega⟩); (have PX := A0_ HX.out.1); (have pX : (0 ≤ x) = True := eq_true HX.out.1); (by_cases c : x < (tiles.length : Int))
    ·(have cb : decide (x < (tiles.length : Int)) = true := decide_eq_true c); (have QX := A0_ c); (have QU := A0_ (show x < (used.length : Int) by rw [HUL.out]; exact c)); (have qX : (x < (tiles.length : Int)) = True := eq_true c); (have qU : (x < (used.length : Int)) = True := eq_true QU.out); (have HR1 := A0_ ((outerL_step tiles wd h (fromL step tiles wd h d) used laid layout x.toNat (by have := PX.out; omega) s1).symm.trans HR.out)); clear HR; go_wp2
     go_loopg [52] 5 (fun kq v52 w' => ∃ (t : Int) (s' : LS α), v52 = .int .i64 t ∧ Aside0 (0 ≤ t ∧ t ≤ 4 ∧ kq + t.toNat = 5) ∧ Aside0 (s'.ended = false ∧ s'.broken = false ∧ 0 ≤ s'.steps ∧ s'.steps ≤ 5000) ∧ Aside0 (contL tiles wd h (fromL step tiles wd h d) used laid layout x.toNat (innerL tiles wd h (fromL step tiles wd h d) used laid layout x.toNat (4 - t.toNat) s') = R) ∧ Aside0 (IsLay w0 w' g (.func (.func f) #[] caps) tiles wd h used laid layout s'.steps false false) ∧ Aside0 (Vis s'.a false w') ∧ Aside0 (Below w0.heap.size w0 w'))
     case atStart => exact ⟨0, s1, rfl, ⟨by omega, by omega, by simp⟩, HS1, HR1, HI, HV, HB⟩
     case round =>
      clear HI HV HB HR1 HS1; (obtain ⟨t, s2, rfl, HT, HS2, HR2, HI, HV, HB⟩ := hrel); (obtain ⟨k2, rfl⟩ : ∃ k2, gk = k2 + 1 := ⟨gk - 1, by have := HT.out; omega⟩); (by_cases c4 : t < 4)
      ·(have c4b : decide (t < 4) = true := decide_eq_true c4); (have PT := A0_ (show 0 ≤ t ∧ t ≤ 3 from ⟨HT.out.1, by omega⟩)); (have hwt : wrap64 (t + 1) = t + 1 := by have := PT.out; unfold wrap64; omega); (have et : (t + 1).toNat = t.toNat + 1 := by have := PT.out; omega); (have ex : ((x.toNat : Nat) : Int) = x := Int.toNat_of_nonneg PX.out); (have ett : ((t.toNat : Nat) : Int) = t := Int.toNat_of_nonneg PT.out.1); (have ET := A0_ et); (have EX := A0_ ex); (have ETT := A0_ ett); (have HT4 := A0_ (show t.toNat < 4 by omega)); clear et ex ett; (have hrd : rdOf false used x = used.getD x.toNat false := by unfold rdOf; first | rfl | simp); (obtain ⟨A0, c0, Au, cu, Al, cl, Ay, cy, hg_, hg0_, hC_, hU_, hL_, hY_⟩ := HI.out); (obtain ⟨gu, rfl⟩ := open_used hU_ PX.out QU.out); (have HG := A0_ hg_); (have hg0 := A0_ hg0_); (have HC := A0_ hC_); (have HU := A0_ hU_); (have HL := A0_ hL_); (have HY := A0_ hY_); clear hU_ hL_ hY_ hg0_ HI; (have hg00 := (blk_cell hg_ 0).trans rfl); clear hg_; (obtain ⟨ad, e, hx0, hx1, hx2, hx3⟩ := at_T24 hC_ x PX.out QX.out); (cases e); (replace hx0 := pw_cell_below HB.out hx0); (replace hx1 := pw_cell_below HB.out hx1); (replace hx2 := pw_cell_below HB.out hx2); (replace hx3 := pw_cell_below HB.out hx3); (change _ = some (Value.int .i64 (tileAt tiles x).f0) at hx0); (change _ = some (Value.int .i64 (tileAt tiles x).f1) at hx1); (change _ = some (Value.int .i64 (tileAt tiles x).f2) at hx2); (change _ = some (Value.int .i64 (tileAt tiles x).f3) at hx3); clear hC_; (go_wp2_with (first | ((with_reducible refine gate_callee (f := 54) rfl ?_); refine goesL_ (some 63) rfl rfl Try.func54 (by kernel_rfl) rfl #[.agg #[.int .i64 (tileAt tiles x).f0, .int .i64 (tileAt tiles x).f1, .int .i64 (tileAt tiles x).f2, .int .i64 (tileAt tiles x).f3], .int .i64 t] rfl (by (try simp only [List.map_toArray, List.map_cons, List.map_nil]); first | done | rfl | (simp only [List.length_drop, List.length_take]; rfl)) ?_; (refine (impl_turnTile.calls 4 (tileAt tiles x).f0 (tileAt tiles x).f1 (tileAt tiles x).f2 (tileAt tiles x).f3 t (turnT (tileAt tiles x) t).f0 (turnT (tileAt tiles x) t).f1 (turnT (tileAt tiles x) t).f2 (turnT (tileAt tiles x) t).f3 _ (turnTile_at (tileAt tiles x) t PT.out.1 PT.out.2 0)).mono ?_); rintro e w3 ⟨rfl, hb⟩; refine ⟨_, rfl, ?_⟩; have z_HG := A0_ (blk_below HG.out hb); have z_HU := A0_ (Kd.R_below HU.out hb); have z_HL := A0_ (Kd.R_below HL.out hb); have z_HY := A0_ (Kd.R_below HY.out hb); have z_HV := A0_ (V.below HV.out hb); have z_HB := A0_ (below_step HB.out hb); clear HG HU HL HY HV HB; have HG := z_HG; have HU := z_HU; have HL := z_HL; have HY := z_HY; have HV := z_HV; have HB := z_HB; clear z_HG z_HU z_HL z_HY z_HV z_HB; clear hb hx0 hx1 hx2 hx3 hg00) | ((with_reducible refine gate_dst (N := 4) rfl ?_); refine box_event ?hg (N := 4) ?hd (cs := #[.int .i64 0, .int .i64 0, .int .i64 0, .int .i64 0]) (t := 24) ?hr ?_; (case hd => rfl); (case hg => rfl); (case hr => first | (go_simp; done) | (go_simp; rfl)); intro gx hgx w4 hbox hb; have BXN := A0_ hbox; have HB4 := A0_ hb; have HGX := A0_ hgx; have hcx0 : w4.cell? ⟨gx, 0, none⟩ = some (.int .i64 0) := (blk_cell BXN.out 0).trans rfl; have hcx1 : w4.cell? ⟨gx, 1, none⟩ = some (.int .i64 0) := (blk_cell BXN.out 1).trans rfl; have hcx2 : w4.cell? ⟨gx, 2, none⟩ = some (.int .i64 0) := (blk_cell BXN.out 2).trans rfl; have hcx3 : w4.cell? ⟨gx, 3, none⟩ = some (.int .i64 0) := (blk_cell BXN.out 3).trans rfl; have hfx0 := blk_frozen BXN.out 0; have hfx1 := blk_frozen BXN.out 1; have hfx2 := blk_frozen BXN.out 2; have hfx3 := blk_frozen BXN.out 3; clear hbox hb hgx)))
       have NX := A0_ (show some gx ≠ (Value.slice Al laid.length cl).ownBlock from fun he => by have h1 := Kd.R_lt HL.out gx he.symm; rw [HGX.out] at h1; exact Nat.lt_irrefl _ h1)
       have NG := A0_ (show g ≠ gx from fun he => by have h1 := blk_lt HG.out; rw [he, HGX.out] at h1; exact Nat.lt_irrefl _ h1)
       (have BX0 := blk_put (cs' := #[.int .i64 (turnT (tileAt tiles x) t).f0, .int .i64 0, .int .i64 0, .int .i64 0]) BXN.out 0 _ rfl); (have BX1 := blk_put (cs' := #[.int .i64 (turnT (tileAt tiles x) t).f0, .int .i64 (turnT (tileAt tiles x) t).f1, .int .i64 0, .int .i64 0]) BX0 1 (.int .i64 (turnT (tileAt tiles x) t).f1) rfl); (have BX2 := blk_put (cs' := #[.int .i64 (turnT (tileAt tiles x) t).f0, .int .i64 (turnT (tileAt tiles x) t).f1, .int .i64 (turnT (tileAt tiles x) t).f2, .int .i64 0]) BX1 2 (.int .i64 (turnT (tileAt tiles x) t).f2) rfl); (have BX := A0_ (blk_put (cs' := #[.int .i64 (turnT (tileAt tiles x) t).f0, .int .i64 (turnT (tileAt tiles x) t).f1, .int .i64 (turnT (tileAt tiles x) t).f2, .int .i64 (turnT (tileAt tiles x) t).f3]) BX2 3 (.int .i64 (turnT (tileAt tiles x) t).f3) rfl)); clear BX0 BX1 BX2 BXN; (have hbX := A0_ (show Below w3.heap.size w3 ((((w4.setCell ⟨gx, 0, none⟩ (.int .i64 (turnT (tileAt tiles x) t).f0)).setCell ⟨gx, 1, none⟩ (.int .i64 (turnT (tileAt tiles x) t).f1)).setCell ⟨gx, 2, none⟩ (.int .i64 (turnT (tileAt tiles x) t).f2)).setCell ⟨gx, 3, none⟩ (.int .i64 (turnT (tileAt tiles x) t).f3)) from below_set (below_set (below_set (below_set HB4.out (by rw [HGX.out]; exact Nat.le_refl _)) (by rw [HGX.out]; exact Nat.le_refl _)) (by rw [HGX.out]; exact Nat.le_refl _)) (by rw [HGX.out]; exact Nat.le_refl _))); (have z_HG := A0_ (blk_below HG.out hbX.out)); (have z_HU := A0_ (Kd.R_below HU.out hbX.out)); (have z_HL := A0_ (Kd.R_below HL.out hbX.out)); (have z_HY := A0_ (Kd.R_below HY.out hbX.out)); (have z_HV := A0_ (V.below HV.out hbX.out)); (have z_HB := A0_ (below_step HB.out hbX.out)); clear HG HU HL HY HV HB; (have HG := z_HG); (have HU := z_HU); (have HL := z_HL); (have HY := z_HY); (have HV := z_HV); (have HB := z_HB); clear z_HG z_HU z_HL z_HY z_HV z_HB; clear hbX hcx0 hcx1 hcx2 hcx3 hfx0 hfx1 hfx2 hfx3; (have z_HG := A0_ (blk_below HG.out (below_drew (Below.refl _ _)))); (have z_HU := A0_ (Kd.R_below HU.out (below_drew (Below.refl _ _)))); (have z_HL := A0_ (Kd.R_below HL.out (below_drew (Below.refl _ _)))); (have z_HY := A0_ (Kd.R_below HY.out (below_drew (Below.refl _ _)))); (have z_HV := A0_ (V.below HV.out (below_drew (Below.refl _ _)))); (have z_HB := A0_ (below_step HB.out (below_drew (Below.refl _ _)))); (have z_BX := A0_ (blk_below BX.out (below_drew (Below.refl _ _)))); clear HG HU HL HY HV HB BX; (have HG := z_HG); (have HU := z_HU); (have HL := z_HL); (have HY := z_HY); (have HV := z_HV); (have HB := z_HB); (have BX := z_BX); clear z_HG z_HU z_HL z_HY z_HV z_HB z_BX; (by_cases hu : rdOf false used x = true)
       ·(have HUB := A0_ hu); clear hu
        refine start_ (n := 30) (S := fun w' => w'.cell? ⟨g, 3, none⟩ = some (.slice (some ⟨gu, 0, none⟩) used.length cu) ∧ w'.cell? ⟨gu, x.toNat, none⟩ = some (.bool true) ∧ w'.cell? ⟨gx, 0, none⟩ = some (.int .i64 (turnT (tileAt tiles x) t).f0) ∧ w'.cell? ⟨gx, 1, none⟩ = some (.int .i64 (turnT (tileAt tiles x) t).f1) ∧ w'.cell? ⟨gx, 2, none⟩ = some (.int .i64 (turnT (tileAt tiles x) t).f2) ∧ w'.cell? ⟨gx, 3, none⟩ = some (.int .i64 (turnT (tileAt tiles x) t).f3) ∧ w'.cell? ⟨g, 4, none⟩ = some (.slice Al laid.length cl) ∧ w'.cell? ⟨g, 1, none⟩ = some (.int .i64 wd) ∧ w'.cell? ⟨g, 2, none⟩ = some (.int .i64 h)) (ds := []) #[ff,ff,ff,ff,ff,ff,ff,ff,ff,ff,ff,ff,ff,ff,ff,ff,ff,ff,ff,ff,ff,ff,ff,ff,ff,ff,ff,ff,ff,ff] (by kernel_rfl) rfl rfl ⟨(blk_cell HG.out 3).trans rfl, (by rw [← HUB.out]; exact (Kd.R_celln false HU.out x PX.out QU.out).1), (blk_cell BX.out 0).trans rfl, (blk_cell BX.out 1).trans rfl, (blk_cell BX.out 2).trans rfl, (blk_cell BX.out 3).trans rfl, (blk_cell HG.out 4).trans rfl, (blk_cell HG.out 1).trans rfl, (blk_cell HG.out 2).trans rfl⟩ (fun hHeld => ?_)
        refine with_tabW impl_from.tab12 impl_from.bits12 (fun HT_ HW_ => ?_)
        (generalize ((((w4.setCell ⟨gx, 0, none⟩ (.int .i64 (turnT (tileAt tiles x) t).f0)).setCell ⟨gx, 1, none⟩ (.int .i64 (turnT (tileAt tiles x) t).f1)).setCell ⟨gx, 2, none⟩ (.int .i64 (turnT (tileAt tiles x) t).f2)).setCell ⟨gx, 3, none⟩ (.int .i64 (turnT (tileAt tiles x) t).f3)).drew = w5 at HG HU HL HY HV HB BX hHeld ⊢)
        refine pure_ (i := 0) (N := some 64) (v := ?_) (a' := ?_) #[tt,ff,ff,ff,ff,ff,ff,ff,ff,ff,ff,ff,ff,ff,ff,ff,ff,ff,ff,ff,ff,ff,ff,ff,ff,ff,ff,ff,ff,ff] rfl rfl (any_of HT_.out (by kernel_rfl)) (fun _ _ _ h => h) (Or.inl ⟨by rfl, ?_⟩) ?_ ?_
        rotate_left
        ·intro w'; go_simp; with_reducible rfl
        rotate_left
        ·(simp only [Act.put, sia_, sz_, ss_, i64_w, i32_w]); rfl
        refine pure_ (i := 1) (N := some 65) (v := ?_) (a' := ?_) #[tt,tt,ff,ff,ff,ff,ff,ff,ff,ff,ff,ff,ff,ff,ff,ff,ff,ff,ff,ff,ff,ff,ff,ff,ff,ff,ff,ff,ff,ff] rfl rfl (any_of HT_.out (by kernel_rfl)) (fun _ _ _ h => h) (Or.inl ⟨by rfl, ?_⟩) ?_ ?_
        rotate_left
        ·intro w'; go_simp; with_reducible rfl
        rotate_left
        ·(simp only [Act.put, sia_, sz_, ss_, i64_w, i32_w]); rfl
        refine pure_ (i := 2) (N := some 66) (v := ?_) (a' := ?_) #[tt,tt,tt,ff,ff,ff,ff,ff,ff,ff,ff,ff,ff,ff,ff,ff,ff,ff,ff,ff,ff,ff,ff,ff,ff,ff,ff,ff,ff,ff] rfl rfl (any_of HT_.out (by kernel_rfl)) (fun _ _ _ h => h) (Or.inl ⟨by rfl, ?_⟩) ?_ ?_
        rotate_left
        ·intro w'; go_simp; with_reducible rfl
        rotate_left
        ·(simp only [Act.put, sia_, sz_, ss_, i64_w, i32_w]); rfl
        refine take_ (i := 3) (N := some 67) (v := ?_) (a' := ?_) #[tt,tt,tt,tt,ff,ff,ff,ff,ff,ff,ff,ff,ff,ff,ff,ff,ff,ff,ff,ff,ff,ff,ff,ff,ff,ff,ff,ff,ff,ff] rfl rfl (take_ofW HT_.out HW_.out (by kernel_rfl)) (fun _ _ _ h => h) (Or.inl ⟨by rfl, ?_⟩) hHeld ?_ ?_
        rotate_left
        ·(rintro w' ⟨s0, s1, s2, s3, s4, s5, s6, s7, s8⟩); go_simp; with_reducible rfl
        rotate_left
        ·(simp only [Act.put, sia_, sz_, ss_, i64_w, i32_w]); rfl
        refine pure_ (i := 4) (N := some 68) (v := ?_) (a' := ?_) #[tt,tt,tt,tt,tt,ff,ff,ff,ff,ff,ff,ff,ff,ff,ff,ff,ff,ff,ff,ff,ff,ff,ff,ff,ff,ff,ff,ff,ff,ff] rfl rfl (any_of HT_.out (by kernel_rfl)) (fun _ _ _ h => h) (Or.inl ⟨by rfl, ?_⟩) ?_ ?_
        rotate_left
        ·intro w'; go_simp; with_reducible rfl
        rotate_left
        ·(simp only [Act.put, sia_, sz_, ss_, i64_w, i32_w]); rfl
        refine pure_ (i := 5) (N := some 69) (v := ?_) (a' := ?_) #[tt,tt,tt,tt,tt,tt,ff,ff,ff,ff,ff,ff,ff,ff,ff,ff,ff,ff,ff,ff,ff,ff,ff,ff,ff,ff,ff,ff,ff,ff] rfl rfl (any_of HT_.out (by kernel_rfl)) (fun _ _ _ h => h) (Or.inl ⟨by rfl, ?_⟩) ?_ ?_
        rotate_left
        ·intro w'; go_simp; with_reducible rfl
        rotate_left
        ·(simp only [Act.put, sia_, sz_, ss_, i64_w, i32_w]); rfl
        refine take_ (i := 6) (N := some 70) (v := ?_) (a' := ?_) #[tt,tt,tt,tt,tt,tt,tt,ff,ff,ff,ff,ff,ff,ff,ff,ff,ff,ff,ff,ff,ff,ff,ff,ff,ff,ff,ff,ff,ff,ff] rfl rfl (take_ofW HT_.out HW_.out (by kernel_rfl)) (fun _ _ _ h => h) (Or.inl ⟨by rfl, ?_⟩) hHeld ?_ ?_
        rotate_left
        ·(rintro w' ⟨s0, s1, s2, s3, s4, s5, s6, s7, s8⟩); go_simp; with_reducible rfl
        rotate_left
        ·(simp only [Act.put, sia_, sz_, ss_, i64_w, i32_w]); rfl
        refine pure_ (i := 7) (N := some 71) (v := ?_) (a' := ?_) #[tt,tt,tt,tt,tt,tt,tt,tt,ff,ff,ff,ff,ff,ff,ff,ff,ff,ff,ff,ff,ff,ff,ff,ff,ff,ff,ff,ff,ff,ff] rfl rfl (any_of HT_.out (by kernel_rfl)) (fun _ _ _ h => h) (Or.inl ⟨by rfl, ?_⟩) ?_ ?_
        rotate_left
        ·intro w'; go_simp; with_reducible rfl
        rotate_left
        ·(simp only [Act.put, sia_, sz_, ss_, i64_w, i32_w]); rfl
        refine pure_ (i := 8) (N := some 72) (v := undef) (a' := ?_) #[tt,tt,tt,tt,tt,tt,tt,tt,tt,ff,ff,ff,ff,ff,ff,ff,ff,ff,ff,ff,ff,ff,ff,ff,ff,ff,ff,ff,ff,ff] rfl rfl (any_of HT_.out (by kernel_rfl)) (fun _ _ _ h => h) (Or.inr ⟨by rfl, by rfl⟩) ?_ ?_
        rotate_left
        ·(simp only [Act.put, sia_, sz_, ss_, i64_w, i32_w]); rfl
        refine pure_ (i := 9) (N := some 73) (v := undef) (a' := ?_) #[tt,tt,tt,tt,tt,tt,tt,tt,tt,tt,ff,ff,ff,ff,ff,ff,ff,ff,ff,ff,ff,ff,ff,ff,ff,ff,ff,ff,ff,ff] rfl rfl (any_of HT_.out (by kernel_rfl)) (fun _ _ _ h => h) (Or.inr ⟨by rfl, by rfl⟩) ?_ ?_
        rotate_left
        ·(simp only [Act.put, sia_, sz_, ss_, i64_w, i32_w]); rfl
        refine pure_ (i := 10) (N := some 74) (v := undef) (a' := ?_) #[tt,tt,tt,tt,tt,tt,tt,tt,tt,tt,tt,ff,ff,ff,ff,ff,ff,ff,ff,ff,ff,ff,ff,ff,ff,ff,ff,ff,ff,ff] rfl rfl (any_of HT_.out (by kernel_rfl)) (fun _ _ _ h => h) (Or.inr ⟨by rfl, by rfl⟩) ?_ ?_
        rotate_left
        ·(simp only [Act.put, sia_, sz_, ss_, i64_w, i32_w]); rfl
        refine pure_ (i := 11) (N := some 75) (v := undef) (a' := ?_) #[tt,tt,tt,tt,tt,tt,tt,tt,tt,tt,tt,tt,ff,ff,ff,ff,ff,ff,ff,ff,ff,ff,ff,ff,ff,ff,ff,ff,ff,ff] rfl rfl (any_of HT_.out (by kernel_rfl)) (fun _ _ _ h => h) (Or.inr ⟨by rfl, by rfl⟩) ?_ ?_
        rotate_left
        ·(simp only [Act.put, sia_, sz_, ss_, i64_w, i32_w]); rfl
        refine pure_ (i := 12) (N := some 76) (v := ?_) (a' := ?_) #[tt,tt,tt,tt,tt,tt,tt,tt,tt,tt,tt,tt,tt,ff,ff,ff,ff,ff,ff,ff,ff,ff,ff,ff,ff,ff,ff,ff,ff,ff] rfl rfl (any_of HT_.out (by kernel_rfl)) (fun _ _ _ h => h) (Or.inl ⟨by rfl, ?_⟩) ?_ ?_
        rotate_left
        ·intro w'; go_simp; with_reducible rfl
        rotate_left
        ·(simp only [Act.put, sia_, sz_, ss_, i64_w, i32_w]); rfl
        refine pure_ (i := 13) (N := some 77) (v := ?_) (a' := ?_) #[tt,tt,tt,tt,tt,tt,tt,tt,tt,tt,tt,tt,tt,tt,ff,ff,ff,ff,ff,ff,ff,ff,ff,ff,ff,ff,ff,ff,ff,ff] rfl rfl (any_of HT_.out (by kernel_rfl)) (fun _ _ _ h => h) (Or.inl ⟨by rfl, ?_⟩) ?_ ?_
        rotate_left
        ·intro w'; go_simp; with_reducible rfl
        rotate_left
        ·(simp only [Act.put, sia_, sz_, ss_, i64_w, i32_w]); rfl
        refine pure_ (i := 14) (N := some 78) (v := undef) (a' := ?_) #[tt,tt,tt,tt,tt,tt,tt,tt,tt,tt,tt,tt,tt,tt,tt,ff,ff,ff,ff,ff,ff,ff,ff,ff,ff,ff,ff,ff,ff,ff] rfl rfl (any_of HT_.out (by kernel_rfl)) (fun _ _ _ h => h) (Or.inr ⟨by rfl, by rfl⟩) ?_ ?_
        rotate_left
        ·(simp only [Act.put, sia_, sz_, ss_, i64_w, i32_w]); rfl
        refine pure_ (i := 15) (N := some 79) (v := undef) (a' := ?_) #[tt,tt,tt,tt,tt,tt,tt,tt,tt,tt,tt,tt,tt,tt,tt,tt,ff,ff,ff,ff,ff,ff,ff,ff,ff,ff,ff,ff,ff,ff] rfl rfl (any_of HT_.out (by kernel_rfl)) (fun _ _ _ h => h) (Or.inr ⟨by rfl, by rfl⟩) ?_ ?_
        rotate_left
        ·(simp only [Act.put, sia_, sz_, ss_, i64_w, i32_w]); rfl
        refine pure_ (i := 16) (N := some 80) (v := undef) (a' := ?_) #[tt,tt,tt,tt,tt,tt,tt,tt,tt,tt,tt,tt,tt,tt,tt,tt,tt,ff,ff,ff,ff,ff,ff,ff,ff,ff,ff,ff,ff,ff] rfl rfl (any_of HT_.out (by kernel_rfl)) (fun _ _ _ h => h) (Or.inr ⟨by rfl, by rfl⟩) ?_ ?_
        rotate_left
        ·(simp only [Act.put, sia_, sz_, ss_, i64_w, i32_w]); rfl
        refine pure_ (i := 17) (N := some 81) (v := undef) (a' := ?_) #[tt,tt,tt,tt,tt,tt,tt,tt,tt,tt,tt,tt,tt,tt,tt,tt,tt,tt,ff,ff,ff,ff,ff,ff,ff,ff,ff,ff,ff,ff] rfl rfl (any_of HT_.out (by kernel_rfl)) (fun _ _ _ h => h) (Or.inr ⟨by rfl, by rfl⟩) ?_ ?_
        rotate_left
        ·(simp only [Act.put, sia_, sz_, ss_, i64_w, i32_w]); rfl
        refine pure_ (i := 18) (N := some 82) (v := undef) (a' := ?_) #[tt,tt,tt,tt,tt,tt,tt,tt,tt,tt,tt,tt,tt,tt,tt,tt,tt,tt,tt,ff,ff,ff,ff,ff,ff,ff,ff,ff,ff,ff] rfl rfl (any_of HT_.out (by kernel_rfl)) (fun _ _ _ h => h) (Or.inr ⟨by rfl, by rfl⟩) ?_ ?_
        rotate_left
        ·(simp only [Act.put, sia_, sz_, ss_, i64_w, i32_w]); rfl
        refine pure_ (i := 19) (N := some 83) (v := undef) (a' := ?_) #[tt,tt,tt,tt,tt,tt,tt,tt,tt,tt,tt,tt,tt,tt,tt,tt,tt,tt,tt,tt,ff,ff,ff,ff,ff,ff,ff,ff,ff,ff] rfl rfl (any_of HT_.out (by kernel_rfl)) (fun _ _ _ h => h) (Or.inr ⟨by rfl, by rfl⟩) ?_ ?_
        rotate_left
        ·(simp only [Act.put, sia_, sz_, ss_, i64_w, i32_w]); rfl
        refine pure_ (i := 20) (N := some 84) (v := undef) (a' := ?_) #[tt,tt,tt,tt,tt,tt,tt,tt,tt,tt,tt,tt,tt,tt,tt,tt,tt,tt,tt,tt,tt,ff,ff,ff,ff,ff,ff,ff,ff,ff] rfl rfl (any_of HT_.out (by kernel_rfl)) (fun _ _ _ h => h) (Or.inr ⟨by rfl, by rfl⟩) ?_ ?_
        rotate_left
        ·(simp only [Act.put, sia_, sz_, ss_, i64_w, i32_w]); rfl
        refine pure_ (i := 21) (N := some 85) (v := undef) (a' := ?_) #[tt,tt,tt,tt,tt,tt,tt,tt,tt,tt,tt,tt,tt,tt,tt,tt,tt,tt,tt,tt,tt,tt,ff,ff,ff,ff,ff,ff,ff,ff] rfl rfl (any_of HT_.out (by kernel_rfl)) (fun _ _ _ h => h) (Or.inr ⟨by rfl, by rfl⟩) ?_ ?_
        rotate_left
        ·(simp only [Act.put, sia_, sz_, ss_, i64_w, i32_w]); rfl
        refine pure_ (i := 22) (N := some 86) (v := undef) (a' := ?_) #[tt,tt,tt,tt,tt,tt,tt,tt,tt,tt,tt,tt,tt,tt,tt,tt,tt,tt,tt,tt,tt,tt,tt,ff,ff,ff,ff,ff,ff,ff] rfl rfl (any_of HT_.out (by kernel_rfl)) (fun _ _ _ h => h) (Or.inr ⟨by rfl, by rfl⟩) ?_ ?_
        rotate_left
        ·(simp only [Act.put, sia_, sz_, ss_, i64_w, i32_w]); rfl
        refine pure_ (i := 23) (N := some 87) (v := undef) (a' := ?_) #[tt,tt,tt,tt,tt,tt,tt,tt,tt,tt,tt,tt,tt,tt,tt,tt,tt,tt,tt,tt,tt,tt,tt,tt,ff,ff,ff,ff,ff,ff] rfl rfl (any_of HT_.out (by kernel_rfl)) (fun _ _ _ h => h) (Or.inr ⟨by rfl, by rfl⟩) ?_ ?_
        rotate_left
        ·(simp only [Act.put, sia_, sz_, ss_, i64_w, i32_w]); rfl
        refine pure_ (i := 24) (N := some 88) (v := undef) (a' := ?_) #[tt,tt,tt,tt,tt,tt,tt,tt,tt,tt,tt,tt,tt,tt,tt,tt,tt,tt,tt,tt,tt,tt,tt,tt,tt,ff,ff,ff,ff,ff] rfl rfl (any_of HT_.out (by kernel_rfl)) (fun _ _ _ h => h) (Or.inr ⟨by rfl, by rfl⟩) ?_ ?_
        rotate_left
        ·(simp only [Act.put, sia_, sz_, ss_, i64_w, i32_w]); rfl
        refine pure_ (i := 25) (N := some 89) (v := undef) (a' := ?_) #[tt,tt,tt,tt,tt,tt,tt,tt,tt,tt,tt,tt,tt,tt,tt,tt,tt,tt,tt,tt,tt,tt,tt,tt,tt,tt,ff,ff,ff,ff] rfl rfl (any_of HT_.out (by kernel_rfl)) (fun _ _ _ h => h) (Or.inr ⟨by rfl, by rfl⟩) ?_ ?_
        rotate_left
        ·(simp only [Act.put, sia_, sz_, ss_, i64_w, i32_w]); rfl
        refine pure_ (i := 26) (N := some 90) (v := undef) (a' := ?_) #[tt,tt,tt,tt,tt,tt,tt,tt,tt,tt,tt,tt,tt,tt,tt,tt,tt,tt,tt,tt,tt,tt,tt,tt,tt,tt,tt,ff,ff,ff] rfl rfl (any_of HT_.out (by kernel_rfl)) (fun _ _ _ h => h) (Or.inr ⟨by rfl, by rfl⟩) ?_ ?_
        rotate_left
        ·(simp only [Act.put, sia_, sz_, ss_, i64_w, i32_w]); rfl
        refine pure_ (i := 27) (N := some 91) (v := undef) (a' := ?_) #[tt,tt,tt,tt,tt,tt,tt,tt,tt,tt,tt,tt,tt,tt,tt,tt,tt,tt,tt,tt,tt,tt,tt,tt,tt,tt,tt,tt,ff,ff] rfl rfl (any_of HT_.out (by kernel_rfl)) (fun _ _ _ h => h) (Or.inr ⟨by rfl, by rfl⟩) ?_ ?_
        rotate_left
        ·(simp only [Act.put, sia_, sz_, ss_, i64_w, i32_w]); rfl
        refine pure_ (i := 28) (N := some 92) (v := undef) (a' := ?_) #[tt,tt,tt,tt,tt,tt,tt,tt,tt,tt,tt,tt,tt,tt,tt,tt,tt,tt,tt,tt,tt,tt,tt,tt,tt,tt,tt,tt,tt,ff] rfl rfl (any_of HT_.out (by kernel_rfl)) (fun _ _ _ h => h) (Or.inr ⟨by rfl, by rfl⟩) ?_ ?_
        rotate_left
        ·(simp only [Act.put, sia_, sz_, ss_, i64_w, i32_w]); rfl
        refine pure_ (i := 29) (N := some 93) (v := ?_) (a' := ?_) #[tt,tt,tt,tt,tt,tt,tt,tt,tt,tt,tt,tt,tt,tt,tt,tt,tt,tt,tt,tt,tt,tt,tt,tt,tt,tt,tt,tt,tt,tt] rfl rfl (any_of HT_.out (by kernel_rfl)) (fun _ _ _ h => h) (Or.inl ⟨by rfl, ?_⟩) ?_ ?_
        rotate_left
        ·intro w'; go_simp; with_reducible rfl
        rotate_left
        ·(simp only [Act.put, sia_, sz_, ss_, i64_w, i32_w]); rfl
        (refine done_ (done_of HT_.out (by kernel_rfl)) ?_); (try go_wp2); (go_roundg k2)
        case measure => omega
        case rel => exact ⟨t + 1, s2, (by first | rfl | rw [hwt]), ⟨by have := PT.out; omega, by have := PT.out; omega, by have := HT.out.2.2; have := ET.out; omega⟩, HS2, ⟨by rw [ET.out]; exact cont_skip HT4.out HR2.out (by unfold skipL; rw [← hrd, HUB.out]; rfl)⟩, ⟨⟨_, _, _, _, _, _, _, _, HG.out, hg0.out, HC.out, HU.out, HL.out, HY.out⟩⟩, HV, HB⟩
       ·(have HUB := A0_ (Bool.eq_false_iff.mpr hu)); clear hu; (by_cases hr : againV tiles x.toNat t.toNat = true)
        ·(have HRP := A0_ hr); clear hr
         refine start_ (n := 30) (S := fun w' => w'.cell? ⟨g, 3, none⟩ = some (.slice (some ⟨gu, 0, none⟩) used.length cu) ∧ w'.cell? ⟨gu, x.toNat, none⟩ = some (.bool false) ∧ w'.cell? ⟨gx, 0, none⟩ = some (.int .i64 (turnT (tileAt tiles x) t).f0) ∧ w'.cell? ⟨gx, 1, none⟩ = some (.int .i64 (turnT (tileAt tiles x) t).f1) ∧ w'.cell? ⟨gx, 2, none⟩ = some (.int .i64 (turnT (tileAt tiles x) t).f2) ∧ w'.cell? ⟨gx, 3, none⟩ = some (.int .i64 (turnT (tileAt tiles x) t).f3) ∧ w'.cell? ⟨g, 4, none⟩ = some (.slice Al laid.length cl) ∧ w'.cell? ⟨g, 1, none⟩ = some (.int .i64 wd) ∧ w'.cell? ⟨g, 2, none⟩ = some (.int .i64 h)) (ds := []) #[ff,ff,ff,ff,ff,ff,ff,ff,ff,ff,ff,ff,ff,ff,ff,ff,ff,ff,ff,ff,ff,ff,ff,ff,ff,ff,ff,ff,ff,ff] (by kernel_rfl) rfl rfl ⟨(blk_cell HG.out 3).trans rfl, (by rw [← HUB.out]; exact (Kd.R_celln false HU.out x PX.out QU.out).1), (blk_cell BX.out 0).trans rfl, (blk_cell BX.out 1).trans rfl, (blk_cell BX.out 2).trans rfl, (blk_cell BX.out 3).trans rfl, (blk_cell HG.out 4).trans rfl, (blk_cell HG.out 1).trans rfl, (blk_cell HG.out 2).trans rfl⟩ (fun hHeld => ?_)
         refine with_tabW impl_from.tab12 impl_from.bits12 (fun HT_ HW_ => ?_)
         (generalize ((((w4.setCell ⟨gx, 0, none⟩ (.int .i64 (turnT (tileAt tiles x) t).f0)).setCell ⟨gx, 1, none⟩ (.int .i64 (turnT (tileAt tiles x) t).f1)).setCell ⟨gx, 2, none⟩ (.int .i64 (turnT (tileAt tiles x) t).f2)).setCell ⟨gx, 3, none⟩ (.int .i64 (turnT (tileAt tiles x) t).f3)).drew = w5 at HG HU HL HY HV HB BX hHeld ⊢)
         refine pure_ (i := 0) (N := some 64) (v := ?_) (a' := ?_) #[tt,ff,ff,ff,ff,ff,ff,ff,ff,ff,ff,ff,ff,ff,ff,ff,ff,ff,ff,ff,ff,ff,ff,ff,ff,ff,ff,ff,ff,ff] rfl rfl (any_of HT_.out (by kernel_rfl)) (fun _ _ _ h => h) (Or.inl ⟨by rfl, ?_⟩) ?_ ?_
         rotate_left
         ·intro w'; go_simp; with_reducible rfl
         rotate_left
         ·(simp only [Act.put, sia_, sz_, ss_, i64_w, i32_w]); rfl
         refine pure_ (i := 1) (N := some 65) (v := ?_) (a' := ?_) #[tt,tt,ff,ff,ff,ff,ff,ff,ff,ff,ff,ff,ff,ff,ff,ff,ff,ff,ff,ff,ff,ff,ff,ff,ff,ff,ff,ff,ff,ff] rfl rfl (any_of HT_.out (by kernel_rfl)) (fun _ _ _ h => h) (Or.inl ⟨by rfl, ?_⟩) ?_ ?_
         rotate_left
         ·intro w'; go_simp; with_reducible rfl
         rotate_left
         ·(simp only [Act.put, sia_, sz_, ss_, i64_w, i32_w]); rfl
         refine pure_ (i := 2) (N := some 66) (v := ?_) (a' := ?_) #[tt,tt,tt,ff,ff,ff,ff,ff,ff,ff,ff,ff,ff,ff,ff,ff,ff,ff,ff,ff,ff,ff,ff,ff,ff,ff,ff,ff,ff,ff] rfl rfl (any_of HT_.out (by kernel_rfl)) (fun _ _ _ h => h) (Or.inl ⟨by rfl, ?_⟩) ?_ ?_
         rotate_left
         ·intro w'; go_simp; with_reducible rfl
         rotate_left
         ·(simp only [Act.put, sia_, sz_, ss_, i64_w, i32_w]); rfl
         refine take_ (i := 3) (N := some 67) (v := ?_) (a' := ?_) #[tt,tt,tt,tt,ff,ff,ff,ff,ff,ff,ff,ff,ff,ff,ff,ff,ff,ff,ff,ff,ff,ff,ff,ff,ff,ff,ff,ff,ff,ff] rfl rfl (take_ofW HT_.out HW_.out (by kernel_rfl)) (fun _ _ _ h => h) (Or.inl ⟨by rfl, ?_⟩) hHeld ?_ ?_
         rotate_left
         ·(rintro w' ⟨s0, s1, s2, s3, s4, s5, s6, s7, s8⟩); go_simp; with_reducible rfl
         rotate_left
         ·(simp only [Act.put, sia_, sz_, ss_, i64_w, i32_w]); rfl
         refine pure_ (i := 4) (N := some 68) (v := ?_) (a' := ?_) #[tt,tt,tt,tt,tt,ff,ff,ff,ff,ff,ff,ff,ff,ff,ff,ff,ff,ff,ff,ff,ff,ff,ff,ff,ff,ff,ff,ff,ff,ff] rfl rfl (any_of HT_.out (by kernel_rfl)) (fun _ _ _ h => h) (Or.inl ⟨by rfl, ?_⟩) ?_ ?_
         rotate_left
         ·intro w'; go_simp; with_reducible rfl
         rotate_left
         ·(simp only [Act.put, sia_, sz_, ss_, i64_w, i32_w]); rfl
         refine pure_ (i := 5) (N := some 69) (v := ?_) (a' := ?_) #[tt,tt,tt,tt,tt,tt,ff,ff,ff,ff,ff,ff,ff,ff,ff,ff,ff,ff,ff,ff,ff,ff,ff,ff,ff,ff,ff,ff,ff,ff] rfl rfl (any_of HT_.out (by kernel_rfl)) (fun _ _ _ h => h) (Or.inl ⟨by rfl, ?_⟩) ?_ ?_
         rotate_left
         ·intro w'; go_simp; with_reducible rfl
         rotate_left
         ·(simp only [Act.put, sia_, sz_, ss_, i64_w, i32_w]); rfl
         refine take_ (i := 6) (N := some 70) (v := ?_) (a' := ?_) #[tt,tt,tt,tt,tt,tt,tt,ff,ff,ff,ff,ff,ff,ff,ff,ff,ff,ff,ff,ff,ff,ff,ff,ff,ff,ff,ff,ff,ff,ff] rfl rfl (take_ofW HT_.out HW_.out (by kernel_rfl)) (fun _ _ _ h => h) (Or.inl ⟨by rfl, ?_⟩) hHeld ?_ ?_
         rotate_left
         ·(rintro w' ⟨s0, s1, s2, s3, s4, s5, s6, s7, s8⟩); go_simp; with_reducible rfl
         rotate_left
         ·(simp only [Act.put, sia_, sz_, ss_, i64_w, i32_w]); rfl
         refine pure_ (i := 7) (N := some 71) (v := ?_) (a' := ?_) #[tt,tt,tt,tt,tt,tt,tt,tt,ff,ff,ff,ff,ff,ff,ff,ff,ff,ff,ff,ff,ff,ff,ff,ff,ff,ff,ff,ff,ff,ff] rfl rfl (any_of HT_.out (by kernel_rfl)) (fun _ _ _ h => h) (Or.inl ⟨by rfl, ?_⟩) ?_ ?_
         rotate_left
         ·intro w'; go_simp; with_reducible rfl
         rotate_left
         ·(simp only [Act.put, sia_, sz_, ss_, i64_w, i32_w]); rfl
         refine pure_ (i := 8) (N := some 72) (v := ?_) (a' := ?_) #[tt,tt,tt,tt,tt,tt,tt,tt,tt,ff,ff,ff,ff,ff,ff,ff,ff,ff,ff,ff,ff,ff,ff,ff,ff,ff,ff,ff,ff,ff] rfl rfl (any_of HT_.out (by kernel_rfl)) (fun _ _ _ h => h) (Or.inl ⟨by rfl, ?_⟩) ?_ ?_
         rotate_left
         ·intro w'; go_simp; with_reducible rfl
         rotate_left
         ·(simp only [Act.put, sia_, sz_, ss_, i64_w, i32_w]); rfl
         refine pure_ (i := 9) (N := some 73) (v := ?_) (a' := ?_) #[tt,tt,tt,tt,tt,tt,tt,tt,tt,tt,ff,ff,ff,ff,ff,ff,ff,ff,ff,ff,ff,ff,ff,ff,ff,ff,ff,ff,ff,ff] rfl rfl (any_of HT_.out (by kernel_rfl)) (fun _ _ _ h => h) (Or.inl ⟨by rfl, ?_⟩) ?_ ?_
         rotate_left
         ·intro w'; go_simp; with_reducible rfl
         rotate_left
         ·(simp only [Act.put, sia_, sz_, ss_, i64_w, i32_w]); rfl
         refine pure_ (i := 10) (N := some 74) (v := ?_) (a' := ?_) #[tt,tt,tt,tt,tt,tt,tt,tt,tt,tt,tt,ff,ff,ff,ff,ff,ff,ff,ff,ff,ff,ff,ff,ff,ff,ff,ff,ff,ff,ff] rfl rfl (any_of HT_.out (by kernel_rfl)) (fun _ _ _ h => h) (Or.inl ⟨by rfl, ?_⟩) ?_ ?_
         rotate_left
         ·intro w'; go_simp; with_reducible rfl
         rotate_left
         ·(simp only [Act.put, sia_, sz_, ss_, i64_w, i32_w]); rfl
         refine one_ (i := 11) (N := some 75) #[tt,tt,tt,tt,tt,tt,tt,tt,tt,tt,tt,tt,ff,ff,ff,ff,ff,ff,ff,ff,ff,ff,ff,ff,ff,ff,ff,ff,ff,ff] rfl rfl (one_of HT_.out (by kernel_rfl)) (by decide) (fun K hK => ?_)
         (refine goes_ Try.func83 (by kernel_rfl) rfl #[.pointer (some ⟨g, 0, none⟩), .int .i64 x, .int .i64 t] (by rfl) rfl rfl (by (try simp only [List.map_toArray, List.map_cons, List.map_nil]); first | done | rfl | (simp only [List.length_drop, List.length_take]; rfl)) ?_); (have hq := impl_isRepeated.calls' (show IsLay w0 _ g (.func (.func f) #[] caps) tiles wd h used laid layout s2.steps false false from ⟨_, _, _, _, _, _, _, _, HG.out, hg0.out, HC.out, HU.out, HL.out, HY.out⟩) HB.out x t PX.out QX.out PT.out); (rw [HRP.out] at hq); (refine hq.mono ?_); (rintro e w3 ⟨rfl, hb⟩); (refine ⟨_, rfl, ?_⟩); (have z_HG := A0_ (blk_below HG.out hb)); (have z_HU := A0_ (Kd.R_below HU.out hb)); (have z_HL := A0_ (Kd.R_below HL.out hb)); (have z_HY := A0_ (Kd.R_below HY.out hb)); (have z_HV := A0_ (V.below HV.out hb)); (have z_HB := A0_ (below_step HB.out hb)); (have z_BX := A0_ (blk_below BX.out hb)); clear HG HU HL HY HV HB BX; (have HG := z_HG); (have HU := z_HU); (have HL := z_HL); (have HY := z_HY); (have HV := z_HV); (have HB := z_HB); (have BX := z_BX); clear z_HG z_HU z_HL z_HY z_HV z_HB z_BX
         refine hK.out _ _ ⟨(blk_cell HG.out 3).trans rfl, (by rw [← HUB.out]; exact (Kd.R_celln false HU.out x PX.out QU.out).1), (blk_cell BX.out 0).trans rfl, (blk_cell BX.out 1).trans rfl, (blk_cell BX.out 2).trans rfl, (blk_cell BX.out 3).trans rfl, (blk_cell HG.out 4).trans rfl, (blk_cell HG.out 1).trans rfl, (blk_cell HG.out 2).trans rfl⟩ (fun hHeld => ?_)
         clear hb; clear hK K; (refine norm_ (a' := ?_) ?_ ?_); rotate_left
         ·(show Act.put _ (some 75) _ = _); (simp only [Act.put, sia_, sz_, ss_, i64_w, i32_w]); rfl
         refine pure_ (i := 12) (N := some 76) (v := ?_) (a' := ?_) #[tt,tt,tt,tt,tt,tt,tt,tt,tt,tt,tt,tt,tt,ff,ff,ff,ff,ff,ff,ff,ff,ff,ff,ff,ff,ff,ff,ff,ff,ff] rfl rfl (any_of HT_.out (by kernel_rfl)) (fun _ _ _ h => h) (Or.inl ⟨by rfl, ?_⟩) ?_ ?_
         rotate_left
         ·intro w'; go_simp; with_reducible rfl
         rotate_left
         ·(simp only [Act.put, sia_, sz_, ss_, i64_w, i32_w]); rfl
         refine pure_ (i := 13) (N := some 77) (v := ?_) (a' := ?_) #[tt,tt,tt,tt,tt,tt,tt,tt,tt,tt,tt,tt,tt,tt,ff,ff,ff,ff,ff,ff,ff,ff,ff,ff,ff,ff,ff,ff,ff,ff] rfl rfl (any_of HT_.out (by kernel_rfl)) (fun _ _ _ h => h) (Or.inl ⟨by rfl, ?_⟩) ?_ ?_
         rotate_left
         ·intro w'; go_simp; with_reducible rfl
         rotate_left
         ·(simp only [Act.put, sia_, sz_, ss_, i64_w, i32_w]); rfl
         refine pure_ (i := 14) (N := some 78) (v := undef) (a' := ?_) #[tt,tt,tt,tt,tt,tt,tt,tt,tt,tt,tt,tt,tt,tt,tt,ff,ff,ff,ff,ff,ff,ff,ff,ff,ff,ff,ff,ff,ff,ff] rfl rfl (any_of HT_.out (by kernel_rfl)) (fun _ _ _ h => h) (Or.inr ⟨by rfl, by rfl⟩) ?_ ?_
         rotate_left
         ·(simp only [Act.put, sia_, sz_, ss_, i64_w, i32_w]); rfl
         refine pure_ (i := 15) (N := some 79) (v := undef) (a' := ?_) #[tt,tt,tt,tt,tt,tt,tt,tt,tt,tt,tt,tt,tt,tt,tt,tt,ff,ff,ff,ff,ff,ff,ff,ff,ff,ff,ff,ff,ff,ff] rfl rfl (any_of HT_.out (by kernel_rfl)) (fun _ _ _ h => h) (Or.inr ⟨by rfl, by rfl⟩) ?_ ?_
         rotate_left
         ·(simp only [Act.put, sia_, sz_, ss_, i64_w, i32_w]); rfl
         refine pure_ (i := 16) (N := some 80) (v := undef) (a' := ?_) #[tt,tt,tt,tt,tt,tt,tt,tt,tt,tt,tt,tt,tt,tt,tt,tt,tt,ff,ff,ff,ff,ff,ff,ff,ff,ff,ff,ff,ff,ff] rfl rfl (any_of HT_.out (by kernel_rfl)) (fun _ _ _ h => h) (Or.inr ⟨by rfl, by rfl⟩) ?_ ?_
         rotate_left
         ·(simp only [Act.put, sia_, sz_, ss_, i64_w, i32_w]); rfl
         refine pure_ (i := 17) (N := some 81) (v := undef) (a' := ?_) #[tt,tt,tt,tt,tt,tt,tt,tt,tt,tt,tt,tt,tt,tt,tt,tt,tt,tt,ff,ff,ff,ff,ff,ff,ff,ff,ff,ff,ff,ff] rfl rfl (any_of HT_.out (by kernel_rfl)) (fun _ _ _ h => h) (Or.inr ⟨by rfl, by rfl⟩) ?_ ?_
         rotate_left
         ·(simp only [Act.put, sia_, sz_, ss_, i64_w, i32_w]); rfl
         refine pure_ (i := 18) (N := some 82) (v := undef) (a' := ?_) #[tt,tt,tt,tt,tt,tt,tt,tt,tt,tt,tt,tt,tt,tt,tt,tt,tt,tt,tt,ff,ff,ff,ff,ff,ff,ff,ff,ff,ff,ff] rfl rfl (any_of HT_.out (by kernel_rfl)) (fun _ _ _ h => h) (Or.inr ⟨by rfl, by rfl⟩) ?_ ?_
         rotate_left
         ·(simp only [Act.put, sia_, sz_, ss_, i64_w, i32_w]); rfl
         refine pure_ (i := 19) (N := some 83) (v := undef) (a' := ?_) #[tt,tt,tt,tt,tt,tt,tt,tt,tt,tt,tt,tt,tt,tt,tt,tt,tt,tt,tt,tt,ff,ff,ff,ff,ff,ff,ff,ff,ff,ff] rfl rfl (any_of HT_.out (by kernel_rfl)) (fun _ _ _ h => h) (Or.inr ⟨by rfl, by rfl⟩) ?_ ?_
         rotate_left
         ·(simp only [Act.put, sia_, sz_, ss_, i64_w, i32_w]); rfl
         refine pure_ (i := 20) (N := some 84) (v := undef) (a' := ?_) #[tt,tt,tt,tt,tt,tt,tt,tt,tt,tt,tt,tt,tt,tt,tt,tt,tt,tt,tt,tt,tt,ff,ff,ff,ff,ff,ff,ff,ff,ff] rfl rfl (any_of HT_.out (by kernel_rfl)) (fun _ _ _ h => h) (Or.inr ⟨by rfl, by rfl⟩) ?_ ?_
         rotate_left
         ·(simp only [Act.put, sia_, sz_, ss_, i64_w, i32_w]); rfl
         refine pure_ (i := 21) (N := some 85) (v := undef) (a' := ?_) #[tt,tt,tt,tt,tt,tt,tt,tt,tt,tt,tt,tt,tt,tt,tt,tt,tt,tt,tt,tt,tt,tt,ff,ff,ff,ff,ff,ff,ff,ff] rfl rfl (any_of HT_.out (by kernel_rfl)) (fun _ _ _ h => h) (Or.inr ⟨by rfl, by rfl⟩) ?_ ?_
         rotate_left
         ·(simp only [Act.put, sia_, sz_, ss_, i64_w, i32_w]); rfl
         refine pure_ (i := 22) (N := some 86) (v := undef) (a' := ?_) #[tt,tt,tt,tt,tt,tt,tt,tt,tt,tt,tt,tt,tt,tt,tt,tt,tt,tt,tt,tt,tt,tt,tt,ff,ff,ff,ff,ff,ff,ff] rfl rfl (any_of HT_.out (by kernel_rfl)) (fun _ _ _ h => h) (Or.inr ⟨by rfl, by rfl⟩) ?_ ?_
         rotate_left
         ·(simp only [Act.put, sia_, sz_, ss_, i64_w, i32_w]); rfl
         refine pure_ (i := 23) (N := some 87) (v := undef) (a' := ?_) #[tt,tt,tt,tt,tt,tt,tt,tt,tt,tt,tt,tt,tt,tt,tt,tt,tt,tt,tt,tt,tt,tt,tt,tt,ff,ff,ff,ff,ff,ff] rfl rfl (any_of HT_.out (by kernel_rfl)) (fun _ _ _ h => h) (Or.inr ⟨by rfl, by rfl⟩) ?_ ?_
         rotate_left
         ·(simp only [Act.put, sia_, sz_, ss_, i64_w, i32_w]); rfl
         refine pure_ (i := 24) (N := some 88) (v := undef) (a' := ?_) #[tt,tt,tt,tt,tt,tt,tt,tt,tt,tt,tt,tt,tt,tt,tt,tt,tt,tt,tt,tt,tt,tt,tt,tt,tt,ff,ff,ff,ff,ff] rfl rfl (any_of HT_.out (by kernel_rfl)) (fun _ _ _ h => h) (Or.inr ⟨by rfl, by rfl⟩) ?_ ?_
         rotate_left
         ·(simp only [Act.put, sia_, sz_, ss_, i64_w, i32_w]); rfl
         refine pure_ (i := 25) (N := some 89) (v := undef) (a' := ?_) #[tt,tt,tt,tt,tt,tt,tt,tt,tt,tt,tt,tt,tt,tt,tt,tt,tt,tt,tt,tt,tt,tt,tt,tt,tt,tt,ff,ff,ff,ff] rfl rfl (any_of HT_.out (by kernel_rfl)) (fun _ _ _ h => h) (Or.inr ⟨by rfl, by rfl⟩) ?_ ?_
         rotate_left
         ·(simp only [Act.put, sia_, sz_, ss_, i64_w, i32_w]); rfl
         refine pure_ (i := 26) (N := some 90) (v := undef) (a' := ?_) #[tt,tt,tt,tt,tt,tt,tt,tt,tt,tt,tt,tt,tt,tt,tt,tt,tt,tt,tt,tt,tt,tt,tt,tt,tt,tt,tt,ff,ff,ff] rfl rfl (any_of HT_.out (by kernel_rfl)) (fun _ _ _ h => h) (Or.inr ⟨by rfl, by rfl⟩) ?_ ?_
         rotate_left
         ·(simp only [Act.put, sia_, sz_, ss_, i64_w, i32_w]); rfl
         refine pure_ (i := 27) (N := some 91) (v := undef) (a' := ?_) #[tt,tt,tt,tt,tt,tt,tt,tt,tt,tt,tt,tt,tt,tt,tt,tt,tt,tt,tt,tt,tt,tt,tt,tt,tt,tt,tt,tt,ff,ff] rfl rfl (any_of HT_.out (by kernel_rfl)) (fun _ _ _ h => h) (Or.inr ⟨by rfl, by rfl⟩) ?_ ?_
         rotate_left
         ·(simp only [Act.put, sia_, sz_, ss_, i64_w, i32_w]); rfl
         refine pure_ (i := 28) (N := some 92) (v := undef) (a' := ?_) #[tt,tt,tt,tt,tt,tt,tt,tt,tt,tt,tt,tt,tt,tt,tt,tt,tt,tt,tt,tt,tt,tt,tt,tt,tt,tt,tt,tt,tt,ff] rfl rfl (any_of HT_.out (by kernel_rfl)) (fun _ _ _ h => h) (Or.inr ⟨by rfl, by rfl⟩) ?_ ?_
         rotate_left
         ·(simp only [Act.put, sia_, sz_, ss_, i64_w, i32_w]); rfl
         refine pure_ (i := 29) (N := some 93) (v := ?_) (a' := ?_) #[tt,tt,tt,tt,tt,tt,tt,tt,tt,tt,tt,tt,tt,tt,tt,tt,tt,tt,tt,tt,tt,tt,tt,tt,tt,tt,tt,tt,tt,tt] rfl rfl (any_of HT_.out (by kernel_rfl)) (fun _ _ _ h => h) (Or.inl ⟨by rfl, ?_⟩) ?_ ?_
         rotate_left
         ·intro w'; go_simp; with_reducible rfl
         rotate_left
         ·(simp only [Act.put, sia_, sz_, ss_, i64_w, i32_w]); rfl
         (refine done_ (done_of HT_.out (by kernel_rfl)) ?_); (try go_wp2); (go_roundg k2)
         case measure => omega
         case rel => exact ⟨t + 1, s2, (by first | rfl | rw [hwt]), ⟨by have := PT.out; omega, by have := PT.out; omega, by have := HT.out.2.2; have := ET.out; omega⟩, HS2, ⟨by rw [ET.out]; exact cont_skip HT4.out HR2.out (by unfold skipL; rw [← hrd, HUB.out, HRP.out]; rfl)⟩, ⟨⟨_, _, _, _, _, _, _, _, HG.out, hg0.out, HC.out, HU.out, HL.out, HY.out⟩⟩, HV, HB⟩
        ·(have HRP := A0_ (Bool.eq_false_iff.mpr hr)); clear hr; (have hox : okT (turnT (tileAt tiles x) t) = true := turnT_ok _ _ (tileAt_ok tiles x hok PX.out QX.out)); (obtain ⟨kf, hkf⟩ := fits_at laid (turnT (tileAt tiles x) t) wd h hw1 hw6 hh1 hh6 (by have := NL.out; omega) hlo hox); (by_cases hf : fitsV laid (turnT (tileAt tiles x) t) wd h = true)
         ·(have FT := A0_ hf); (rw [hf] at hkf); (have HF := A0_ hkf); clear hf hkf
          refine start_ (n := 30) (S := fun w' => w'.cell? ⟨g, 3, none⟩ = some (.slice (some ⟨gu, 0, none⟩) used.length cu) ∧ w'.cell? ⟨gu, x.toNat, none⟩ = some (.bool false) ∧ w'.cell? ⟨gx, 0, none⟩ = some (.int .i64 (turnT (tileAt tiles x) t).f0) ∧ w'.cell? ⟨gx, 1, none⟩ = some (.int .i64 (turnT (tileAt tiles x) t).f1) ∧ w'.cell? ⟨gx, 2, none⟩ = some (.int .i64 (turnT (tileAt tiles x) t).f2) ∧ w'.cell? ⟨gx, 3, none⟩ = some (.int .i64 (turnT (tileAt tiles x) t).f3) ∧ w'.cell? ⟨g, 4, none⟩ = some (.slice Al laid.length cl) ∧ w'.cell? ⟨g, 1, none⟩ = some (.int .i64 wd) ∧ w'.cell? ⟨g, 2, none⟩ = some (.int .i64 h)) (ds := []) #[ff,ff,ff,ff,ff,ff,ff,ff,ff,ff,ff,ff,ff,ff,ff,ff,ff,ff,ff,ff,ff,ff,ff,ff,ff,ff,ff,ff,ff,ff] (by kernel_rfl) rfl rfl ⟨(blk_cell HG.out 3).trans rfl, (by rw [← HUB.out]; exact (Kd.R_celln false HU.out x PX.out QU.out).1), (blk_cell BX.out 0).trans rfl, (blk_cell BX.out 1).trans rfl, (blk_cell BX.out 2).trans rfl, (blk_cell BX.out 3).trans rfl, (blk_cell HG.out 4).trans rfl, (blk_cell HG.out 1).trans rfl, (blk_cell HG.out 2).trans rfl⟩ (fun hHeld => ?_)
          refine with_tabW impl_from.tab12 impl_from.bits12 (fun HT_ HW_ => ?_)
          (generalize ((((w4.setCell ⟨gx, 0, none⟩ (.int .i64 (turnT (tileAt tiles x) t).f0)).setCell ⟨gx, 1, none⟩ (.int .i64 (turnT (tileAt tiles x) t).f1)).setCell ⟨gx, 2, none⟩ (.int .i64 (turnT (tileAt tiles x) t).f2)).setCell ⟨gx, 3, none⟩ (.int .i64 (turnT (tileAt tiles x) t).f3)).drew = w5 at HG HU HL HY HV HB BX hHeld ⊢)
          refine pure_ (i := 0) (N := some 64) (v := ?_) (a' := ?_) #[tt,ff,ff,ff,ff,ff,ff,ff,ff,ff,ff,ff,ff,ff,ff,ff,ff,ff,ff,ff,ff,ff,ff,ff,ff,ff,ff,ff,ff,ff] rfl rfl (any_of HT_.out (by kernel_rfl)) (fun _ _ _ h => h) (Or.inl ⟨by rfl, ?_⟩) ?_ ?_
          rotate_left
          ·intro w'; go_simp; with_reducible rfl
          rotate_left
          ·(simp only [Act.put, sia_, sz_, ss_, i64_w, i32_w]); rfl
          refine pure_ (i := 1) (N := some 65) (v := ?_) (a' := ?_) #[tt,tt,ff,ff,ff,ff,ff,ff,ff,ff,ff,ff,ff,ff,ff,ff,ff,ff,ff,ff,ff,ff,ff,ff,ff,ff,ff,ff,ff,ff] rfl rfl (any_of HT_.out (by kernel_rfl)) (fun _ _ _ h => h) (Or.inl ⟨by rfl, ?_⟩) ?_ ?_
          rotate_left
          ·intro w'; go_simp; with_reducible rfl
          rotate_left
          ·(simp only [Act.put, sia_, sz_, ss_, i64_w, i32_w]); rfl
          refine pure_ (i := 2) (N := some 66) (v := ?_) (a' := ?_) #[tt,tt,tt,ff,ff,ff,ff,ff,ff,ff,ff,ff,ff,ff,ff,ff,ff,ff,ff,ff,ff,ff,ff,ff,ff,ff,ff,ff,ff,ff] rfl rfl (any_of HT_.out (by kernel_rfl)) (fun _ _ _ h => h) (Or.inl ⟨by rfl, ?_⟩) ?_ ?_
          rotate_left
          ·intro w'; go_simp; with_reducible rfl
          rotate_left
          ·(simp only [Act.put, sia_, sz_, ss_, i64_w, i32_w]); rfl
          refine take_ (i := 3) (N := some 67) (v := ?_) (a' := ?_) #[tt,tt,tt,tt,ff,ff,ff,ff,ff,ff,ff,ff,ff,ff,ff,ff,ff,ff,ff,ff,ff,ff,ff,ff,ff,ff,ff,ff,ff,ff] rfl rfl (take_ofW HT_.out HW_.out (by kernel_rfl)) (fun _ _ _ h => h) (Or.inl ⟨by rfl, ?_⟩) hHeld ?_ ?_
          rotate_left
          ·(rintro w' ⟨s0, s1, s2, s3, s4, s5, s6, s7, s8⟩); go_simp; with_reducible rfl
          rotate_left
          ·(simp only [Act.put, sia_, sz_, ss_, i64_w, i32_w]); rfl
          refine pure_ (i := 4) (N := some 68) (v := ?_) (a' := ?_) #[tt,tt,tt,tt,tt,ff,ff,ff,ff,ff,ff,ff,ff,ff,ff,ff,ff,ff,ff,ff,ff,ff,ff,ff,ff,ff,ff,ff,ff,ff] rfl rfl (any_of HT_.out (by kernel_rfl)) (fun _ _ _ h => h) (Or.inl ⟨by rfl, ?_⟩) ?_ ?_
          rotate_left
          ·intro w'; go_simp; with_reducible rfl
          rotate_left
          ·(simp only [Act.put, sia_, sz_, ss_, i64_w, i32_w]); rfl
          refine pure_ (i := 5) (N := some 69) (v := ?_) (a' := ?_) #[tt,tt,tt,tt,tt,tt,ff,ff,ff,ff,ff,ff,ff,ff,ff,ff,ff,ff,ff,ff,ff,ff,ff,ff,ff,ff,ff,ff,ff,ff] rfl rfl (any_of HT_.out (by kernel_rfl)) (fun _ _ _ h => h) (Or.inl ⟨by rfl, ?_⟩) ?_ ?_
          rotate_left
          ·intro w'; go_simp; with_reducible rfl
          rotate_left
          ·(simp only [Act.put, sia_, sz_, ss_, i64_w, i32_w]); rfl
          refine take_ (i := 6) (N := some 70) (v := ?_) (a' := ?_) #[tt,tt,tt,tt,tt,tt,tt,ff,ff,ff,ff,ff,ff,ff,ff,ff,ff,ff,ff,ff,ff,ff,ff,ff,ff,ff,ff,ff,ff,ff] rfl rfl (take_ofW HT_.out HW_.out (by kernel_rfl)) (fun _ _ _ h => h) (Or.inl ⟨by rfl, ?_⟩) hHeld ?_ ?_
          rotate_left
          ·(rintro w' ⟨s0, s1, s2, s3, s4, s5, s6, s7, s8⟩); go_simp; with_reducible rfl
          rotate_left
          ·(simp only [Act.put, sia_, sz_, ss_, i64_w, i32_w]); rfl
          refine pure_ (i := 7) (N := some 71) (v := ?_) (a' := ?_) #[tt,tt,tt,tt,tt,tt,tt,tt,ff,ff,ff,ff,ff,ff,ff,ff,ff,ff,ff,ff,ff,ff,ff,ff,ff,ff,ff,ff,ff,ff] rfl rfl (any_of HT_.out (by kernel_rfl)) (fun _ _ _ h => h) (Or.inl ⟨by rfl, ?_⟩) ?_ ?_
          rotate_left
          ·intro w'; go_simp; with_reducible rfl
          rotate_left
          ·(simp only [Act.put, sia_, sz_, ss_, i64_w, i32_w]); rfl
          refine pure_ (i := 8) (N := some 72) (v := ?_) (a' := ?_) #[tt,tt,tt,tt,tt,tt,tt,tt,tt,ff,ff,ff,ff,ff,ff,ff,ff,ff,ff,ff,ff,ff,ff,ff,ff,ff,ff,ff,ff,ff] rfl rfl (any_of HT_.out (by kernel_rfl)) (fun _ _ _ h => h) (Or.inl ⟨by rfl, ?_⟩) ?_ ?_
          rotate_left
          ·intro w'; go_simp; with_reducible rfl
          rotate_left
          ·(simp only [Act.put, sia_, sz_, ss_, i64_w, i32_w]); rfl
          refine pure_ (i := 9) (N := some 73) (v := ?_) (a' := ?_) #[tt,tt,tt,tt,tt,tt,tt,tt,tt,tt,ff,ff,ff,ff,ff,ff,ff,ff,ff,ff,ff,ff,ff,ff,ff,ff,ff,ff,ff,ff] rfl rfl (any_of HT_.out (by kernel_rfl)) (fun _ _ _ h => h) (Or.inl ⟨by rfl, ?_⟩) ?_ ?_
          rotate_left
          ·intro w'; go_simp; with_reducible rfl
          rotate_left
          ·(simp only [Act.put, sia_, sz_, ss_, i64_w, i32_w]); rfl
          refine pure_ (i := 10) (N := some 74) (v := ?_) (a' := ?_) #[tt,tt,tt,tt,tt,tt,tt,tt,tt,tt,tt,ff,ff,ff,ff,ff,ff,ff,ff,ff,ff,ff,ff,ff,ff,ff,ff,ff,ff,ff] rfl rfl (any_of HT_.out (by kernel_rfl)) (fun _ _ _ h => h) (Or.inl ⟨by rfl, ?_⟩) ?_ ?_
          rotate_left
          ·intro w'; go_simp; with_reducible rfl
          rotate_left
          ·(simp only [Act.put, sia_, sz_, ss_, i64_w, i32_w]); rfl
          refine one_ (i := 11) (N := some 75) #[tt,tt,tt,tt,tt,tt,tt,tt,tt,tt,tt,tt,ff,ff,ff,ff,ff,ff,ff,ff,ff,ff,ff,ff,ff,ff,ff,ff,ff,ff] rfl rfl (one_of HT_.out (by kernel_rfl)) (by decide) (fun K hK => ?_)
          (refine goes_ Try.func83 (by kernel_rfl) rfl #[.pointer (some ⟨g, 0, none⟩), .int .i64 x, .int .i64 t] (by rfl) rfl rfl (by (try simp only [List.map_toArray, List.map_cons, List.map_nil]); first | done | rfl | (simp only [List.length_drop, List.length_take]; rfl)) ?_); (have hq := impl_isRepeated.calls' (show IsLay w0 _ g (.func (.func f) #[] caps) tiles wd h used laid layout s2.steps false false from ⟨_, _, _, _, _, _, _, _, HG.out, hg0.out, HC.out, HU.out, HL.out, HY.out⟩) HB.out x t PX.out QX.out PT.out); (rw [HRP.out] at hq); (refine hq.mono ?_); (rintro e w3 ⟨rfl, hb⟩); (refine ⟨_, rfl, ?_⟩); (have z_HG := A0_ (blk_below HG.out hb)); (have z_HU := A0_ (Kd.R_below HU.out hb)); (have z_HL := A0_ (Kd.R_below HL.out hb)); (have z_HY := A0_ (Kd.R_below HY.out hb)); (have z_HV := A0_ (V.below HV.out hb)); (have z_HB := A0_ (below_step HB.out hb)); (have z_BX := A0_ (blk_below BX.out hb)); clear HG HU HL HY HV HB BX; (have HG := z_HG); (have HU := z_HU); (have HL := z_HL); (have HY := z_HY); (have HV := z_HV); (have HB := z_HB); (have BX := z_BX); clear z_HG z_HU z_HL z_HY z_HV z_HB z_BX
          refine hK.out _ _ ⟨(blk_cell HG.out 3).trans rfl, (by rw [← HUB.out]; exact (Kd.R_celln false HU.out x PX.out QU.out).1), (blk_cell BX.out 0).trans rfl, (blk_cell BX.out 1).trans rfl, (blk_cell BX.out 2).trans rfl, (blk_cell BX.out 3).trans rfl, (blk_cell HG.out 4).trans rfl, (blk_cell HG.out 1).trans rfl, (blk_cell HG.out 2).trans rfl⟩ (fun hHeld => ?_)
          clear hb; clear hK K; (refine norm_ (a' := ?_) ?_ ?_); rotate_left
          ·(show Act.put _ (some 75) _ = _); (simp only [Act.put, sia_, sz_, ss_, i64_w, i32_w]); rfl
          refine pure_ (i := 12) (N := some 76) (v := ?_) (a' := ?_) #[tt,tt,tt,tt,tt,tt,tt,tt,tt,tt,tt,tt,tt,ff,ff,ff,ff,ff,ff,ff,ff,ff,ff,ff,ff,ff,ff,ff,ff,ff] rfl rfl (any_of HT_.out (by kernel_rfl)) (fun _ _ _ h => h) (Or.inl ⟨by rfl, ?_⟩) ?_ ?_
          rotate_left
          ·intro w'; go_simp; with_reducible rfl
          rotate_left
          ·(simp only [Act.put, sia_, sz_, ss_, i64_w, i32_w]); rfl
          refine pure_ (i := 13) (N := some 77) (v := ?_) (a' := ?_) #[tt,tt,tt,tt,tt,tt,tt,tt,tt,tt,tt,tt,tt,tt,ff,ff,ff,ff,ff,ff,ff,ff,ff,ff,ff,ff,ff,ff,ff,ff] rfl rfl (any_of HT_.out (by kernel_rfl)) (fun _ _ _ h => h) (Or.inl ⟨by rfl, ?_⟩) ?_ ?_
          rotate_left
          ·intro w'; go_simp; with_reducible rfl
          rotate_left
          ·(simp only [Act.put, sia_, sz_, ss_, i64_w, i32_w]); rfl
          refine take_ (i := 14) (N := some 78) (v := ?_) (a' := ?_) #[tt,tt,tt,tt,tt,tt,tt,tt,tt,tt,tt,tt,tt,tt,tt,ff,ff,ff,ff,ff,ff,ff,ff,ff,ff,ff,ff,ff,ff,ff] rfl rfl (take_ofW HT_.out HW_.out (by kernel_rfl)) (fun _ _ _ h => h) (Or.inl ⟨by rfl, ?_⟩) hHeld ?_ ?_
          rotate_left
          ·(rintro w' ⟨s0, s1, s2, s3, s4, s5, s6, s7, s8⟩); go_simp; with_reducible rfl
          rotate_left
          ·(simp only [Act.put, sia_, sz_, ss_, i64_w, i32_w]); rfl
          refine pure_ (i := 15) (N := some 79) (v := ?_) (a' := ?_) #[tt,tt,tt,tt,tt,tt,tt,tt,tt,tt,tt,tt,tt,tt,tt,tt,ff,ff,ff,ff,ff,ff,ff,ff,ff,ff,ff,ff,ff,ff] rfl rfl (any_of HT_.out (by kernel_rfl)) (fun _ _ _ h => h) (Or.inl ⟨by rfl, ?_⟩) ?_ ?_
          rotate_left
          ·intro w'; go_simp; with_reducible rfl
          rotate_left
          ·(simp only [Act.put, sia_, sz_, ss_, i64_w, i32_w]); rfl
          refine pure_ (i := 16) (N := some 80) (v := ?_) (a' := ?_) #[tt,tt,tt,tt,tt,tt,tt,tt,tt,tt,tt,tt,tt,tt,tt,tt,tt,ff,ff,ff,ff,ff,ff,ff,ff,ff,ff,ff,ff,ff] rfl rfl (any_of HT_.out (by kernel_rfl)) (fun _ _ _ h => h) (Or.inl ⟨by rfl, ?_⟩) ?_ ?_
          rotate_left
          ·intro w'; go_simp; with_reducible rfl
          rotate_left
          ·(simp only [Act.put, sia_, sz_, ss_, i64_w, i32_w]); rfl
          refine pure_ (i := 17) (N := some 81) (v := ?_) (a' := ?_) #[tt,tt,tt,tt,tt,tt,tt,tt,tt,tt,tt,tt,tt,tt,tt,tt,tt,tt,ff,ff,ff,ff,ff,ff,ff,ff,ff,ff,ff,ff] rfl rfl (any_of HT_.out (by kernel_rfl)) (fun _ _ _ h => h) (Or.inl ⟨by rfl, ?_⟩) ?_ ?_
          rotate_left
          ·intro w'; go_simp; with_reducible rfl
          rotate_left
          ·(simp only [Act.put, sia_, sz_, ss_, i64_w, i32_w]); rfl
          refine take_ (i := 18) (N := some 82) (v := ?_) (a' := ?_) #[tt,tt,tt,tt,tt,tt,tt,tt,tt,tt,tt,tt,tt,tt,tt,tt,tt,tt,tt,ff,ff,ff,ff,ff,ff,ff,ff,ff,ff,ff] rfl rfl (take_ofW HT_.out HW_.out (by kernel_rfl)) (fun _ _ _ h => h) (Or.inl ⟨by rfl, ?_⟩) hHeld ?_ ?_
          rotate_left
          ·(rintro w' ⟨s0, s1, s2, s3, s4, s5, s6, s7, s8⟩); go_simp; with_reducible rfl
          rotate_left
          ·(simp only [Act.put, sia_, sz_, ss_, i64_w, i32_w]); rfl
          refine pure_ (i := 19) (N := some 83) (v := ?_) (a' := ?_) #[tt,tt,tt,tt,tt,tt,tt,tt,tt,tt,tt,tt,tt,tt,tt,tt,tt,tt,tt,tt,ff,ff,ff,ff,ff,ff,ff,ff,ff,ff] rfl rfl (any_of HT_.out (by kernel_rfl)) (fun _ _ _ h => h) (Or.inl ⟨by rfl, ?_⟩) ?_ ?_
          rotate_left
          ·intro w'; go_simp; with_reducible rfl
          rotate_left
          ·(simp only [Act.put, sia_, sz_, ss_, i64_w, i32_w]); rfl
          refine pure_ (i := 20) (N := some 84) (v := ?_) (a' := ?_) #[tt,tt,tt,tt,tt,tt,tt,tt,tt,tt,tt,tt,tt,tt,tt,tt,tt,tt,tt,tt,tt,ff,ff,ff,ff,ff,ff,ff,ff,ff] rfl rfl (any_of HT_.out (by kernel_rfl)) (fun _ _ _ h => h) (Or.inl ⟨by rfl, ?_⟩) ?_ ?_
          rotate_left
          ·intro w'; go_simp; with_reducible rfl
          rotate_left
          ·(simp only [Act.put, sia_, sz_, ss_, i64_w, i32_w]); rfl
          refine pure_ (i := 21) (N := some 85) (v := ?_) (a' := ?_) #[tt,tt,tt,tt,tt,tt,tt,tt,tt,tt,tt,tt,tt,tt,tt,tt,tt,tt,tt,tt,tt,tt,ff,ff,ff,ff,ff,ff,ff,ff] rfl rfl (any_of HT_.out (by kernel_rfl)) (fun _ _ _ h => h) (Or.inl ⟨by rfl, ?_⟩) ?_ ?_
          rotate_left
          ·intro w'; go_simp; with_reducible rfl
          rotate_left
          ·(simp only [Act.put, sia_, sz_, ss_, i64_w, i32_w]); rfl
          refine take_ (i := 22) (N := some 86) (v := ?_) (a' := ?_) #[tt,tt,tt,tt,tt,tt,tt,tt,tt,tt,tt,tt,tt,tt,tt,tt,tt,tt,tt,tt,tt,tt,tt,ff,ff,ff,ff,ff,ff,ff] rfl rfl (take_ofW HT_.out HW_.out (by kernel_rfl)) (fun _ _ _ h => h) (Or.inl ⟨by rfl, ?_⟩) hHeld ?_ ?_
          rotate_left
          ·(rintro w' ⟨s0, s1, s2, s3, s4, s5, s6, s7, s8⟩); go_simp; with_reducible rfl
          rotate_left
          ·(simp only [Act.put, sia_, sz_, ss_, i64_w, i32_w]); rfl
          refine pure_ (i := 23) (N := some 87) (v := ?_) (a' := ?_) #[tt,tt,tt,tt,tt,tt,tt,tt,tt,tt,tt,tt,tt,tt,tt,tt,tt,tt,tt,tt,tt,tt,tt,tt,ff,ff,ff,ff,ff,ff] rfl rfl (any_of HT_.out (by kernel_rfl)) (fun _ _ _ h => h) (Or.inl ⟨by rfl, ?_⟩) ?_ ?_
          rotate_left
          ·intro w'; go_simp; with_reducible rfl
          rotate_left
          ·(simp only [Act.put, sia_, sz_, ss_, i64_w, i32_w]); rfl
          refine pure_ (i := 24) (N := some 88) (v := ?_) (a' := ?_) #[tt,tt,tt,tt,tt,tt,tt,tt,tt,tt,tt,tt,tt,tt,tt,tt,tt,tt,tt,tt,tt,tt,tt,tt,tt,ff,ff,ff,ff,ff] rfl rfl (any_of HT_.out (by kernel_rfl)) (fun _ _ _ h => h) (Or.inl ⟨by rfl, ?_⟩) ?_ ?_
          rotate_left
          ·intro w'; go_simp; with_reducible rfl
          rotate_left
          ·(simp only [Act.put, sia_, sz_, ss_, i64_w, i32_w]); rfl
          refine pure_ (i := 25) (N := some 89) (v := ?_) (a' := ?_) #[tt,tt,tt,tt,tt,tt,tt,tt,tt,tt,tt,tt,tt,tt,tt,tt,tt,tt,tt,tt,tt,tt,tt,tt,tt,tt,ff,ff,ff,ff] rfl rfl (any_of HT_.out (by kernel_rfl)) (fun _ _ _ h => h) (Or.inl ⟨by rfl, ?_⟩) ?_ ?_
          rotate_left
          ·intro w'; go_simp; with_reducible rfl
          rotate_left
          ·(simp only [Act.put, sia_, sz_, ss_, i64_w, i32_w]); rfl
          refine take_ (i := 26) (N := some 90) (v := ?_) (a' := ?_) #[tt,tt,tt,tt,tt,tt,tt,tt,tt,tt,tt,tt,tt,tt,tt,tt,tt,tt,tt,tt,tt,tt,tt,tt,tt,tt,tt,ff,ff,ff] rfl rfl (take_ofW HT_.out HW_.out (by kernel_rfl)) (fun _ _ _ h => h) (Or.inl ⟨by rfl, ?_⟩) hHeld ?_ ?_
          rotate_left
          ·(rintro w' ⟨s0, s1, s2, s3, s4, s5, s6, s7, s8⟩); go_simp; with_reducible rfl
          rotate_left
          ·(simp only [Act.put, sia_, sz_, ss_, i64_w, i32_w]); rfl
          refine one_ (i := 27) (N := some 91) #[tt,tt,tt,tt,tt,tt,tt,tt,tt,tt,tt,tt,tt,tt,tt,tt,tt,tt,tt,tt,tt,tt,tt,tt,tt,tt,tt,tt,ff,ff] rfl rfl (one_of HT_.out (by kernel_rfl)) (by decide) (fun K hK => ?_)
          (refine goes_ Try.func77 (by kernel_rfl) rfl #[.agg #[.int .i64 (turnT (tileAt tiles x) t).f0, .int .i64 (turnT (tileAt tiles x) t).f1, .int .i64 (turnT (tileAt tiles x) t).f2, .int .i64 (turnT (tileAt tiles x) t).f3], .slice Al laid.length cl, .int .i64 wd, .int .i64 h] (by rfl) rfl rfl (by (try simp only [List.map_toArray, List.map_cons, List.map_nil]); first | done | rfl | (simp only [List.length_drop, List.length_take]; rfl)) ?_); (refine (impl_fits.calls kf _ _ _ _ Al cl laid wd h _ _ (Kd.R_reads' HL.out).2.2 (Kd.R_reads' HL.out).2.1 HF.out).mono ?_); (rintro e w4 ⟨rfl, hb⟩); (refine ⟨_, rfl, ?_⟩); (have z_HG := A0_ (blk_below HG.out hb)); (have z_HU := A0_ (Kd.R_below HU.out hb)); (have z_HL := A0_ (Kd.R_below HL.out hb)); (have z_HY := A0_ (Kd.R_below HY.out hb)); (have z_HV := A0_ (V.below HV.out hb)); (have z_HB := A0_ (below_step HB.out hb)); (have z_BX := A0_ (blk_below BX.out hb)); clear HG HU HL HY HV HB BX; (have HG := z_HG); (have HU := z_HU); (have HL := z_HL); (have HY := z_HY); (have HV := z_HV); (have HB := z_HB); (have BX := z_BX); clear z_HG z_HU z_HL z_HY z_HV z_HB z_BX
          refine hK.out _ _ ⟨(blk_cell HG.out 3).trans rfl, (by rw [← HUB.out]; exact (Kd.R_celln false HU.out x PX.out QU.out).1), (blk_cell BX.out 0).trans rfl, (blk_cell BX.out 1).trans rfl, (blk_cell BX.out 2).trans rfl, (blk_cell BX.out 3).trans rfl, (blk_cell HG.out 4).trans rfl, (blk_cell HG.out 1).trans rfl, (blk_cell HG.out 2).trans rfl⟩ (fun hHeld => ?_)
          clear hb; clear hK K; (refine norm_ (a' := ?_) ?_ ?_); rotate_left
          ·(show Act.put _ (some 91) _ = _); (simp only [Act.put, sia_, sz_, ss_, i64_w, i32_w]); rfl
          refine pure_ (i := 28) (N := some 92) (v := ?_) (a' := ?_) #[tt,tt,tt,tt,tt,tt,tt,tt,tt,tt,tt,tt,tt,tt,tt,tt,tt,tt,tt,tt,tt,tt,tt,tt,tt,tt,tt,tt,tt,ff] rfl rfl (any_of HT_.out (by kernel_rfl)) (fun _ _ _ h => h) (Or.inl ⟨by rfl, ?_⟩) ?_ ?_
          rotate_left
          ·intro w'; go_simp; with_reducible rfl
          rotate_left
          ·(simp only [Act.put, sia_, sz_, ss_, i64_w, i32_w]); rfl
          refine pure_ (i := 29) (N := some 93) (v := ?_) (a' := ?_) #[tt,tt,tt,tt,tt,tt,tt,tt,tt,tt,tt,tt,tt,tt,tt,tt,tt,tt,tt,tt,tt,tt,tt,tt,tt,tt,tt,tt,tt,tt] rfl rfl (any_of HT_.out (by kernel_rfl)) (fun _ _ _ h => h) (Or.inl ⟨by rfl, ?_⟩) ?_ ?_
          rotate_left
          ·intro w'; go_simp; with_reducible rfl
          rotate_left
          ·(simp only [Act.put, sia_, sz_, ss_, i64_w, i32_w]); rfl
          (refine done_ (done_of HT_.out (by kernel_rfl)) ?_); (have HCS := cont_sub HT4.out HR2.out (by unfold skipL; rw [← hrd, HUB.out, HRP.out, EX.out, ETT.out, FT.out]; rfl)); (rw [EX.out, ETT.out] at HCS); (have HUF := A0_ (show used.getD x.toNat false = false from by rw [← hrd]; exact HUB.out)); (have h3 : w4.cell? ⟨g, 3, none⟩ = some (.slice (some ⟨gu, 0, none⟩) used.length cu) := (blk_cell HG.out 3).trans rfl); (obtain ⟨hcu_, hfu_⟩ := Kd.R_celln false HU.out x PX.out QU.out); go_wp2; clear h3 hcu_ hfu_; (obtain ⟨csu, hcu⟩ := Kd.R_typed HU.out gu rfl); (have hgu_ := Kd.R_base HU.out gu rfl); (have z_HL := A0_ (R_apart (p := ⟨gu, x.toNat, none⟩) HL.out hcu (by decide) (.bool true))); (have z_HY := A0_ (R_apart (p := ⟨gu, x.toNat, none⟩) HY.out hcu (by decide) (.bool true))); (have z_HV := A0_ (V.set (p := ⟨gu, x.toNat, none⟩) (.bool true) HV.out hcu (.inr (.inl rfl)))); (have z_HB := A0_ (below_set (g := gu) (j := x.toNat) (v := .bool true) HB.out hgu_))
          have z_HG := A0_ (blk_far (p := ⟨gu, x.toNat, none⟩) HG.out (fun he => (Kd.R_ne HU.out HG.out (by decide)) (by rw [he]; rfl)) (.bool true))
          have z_BX := A0_ (blk_far (p := ⟨gu, x.toNat, none⟩) BX.out (fun he => (Kd.R_ne HU.out BX.out (by decide)) (by rw [he]; rfl)) (.bool true))
          (have z_HU := A0_ (Kd.R_putn HU.out x true)); clear HL HY HV HB HG BX HU; (have HL := z_HL); (have HY := z_HY); (have HV := z_HV); (have HB := z_HB); (have HG := z_HG); (have BX := z_BX); (have HU := z_HU); clear z_HL z_HY z_HV z_HB z_HG z_BX z_HU; clear hcu hgu_; (obtain ⟨U2, hU2⟩ : ∃ U, U = used.set x.toNat true := ⟨_, rfl⟩); (rw [← hU2] at HU HCS); (have hel : used.length = U2.length := by rw [hU2, List.length_set]); (rw [hel] at HU HG); (have HUE := A0_ hU2); (have HU2 := A0_ (show U2.length = tiles.length from by rw [← hel]; exact HUL.out)); (have QU2 := A0_ (show x < (U2.length : Int) from by rw [← hel]; exact QU.out)); (have qU2 : (x < (U2.length : Int)) = True := eq_true QU2.out); clear hU2 hel; (have z_HG := A0_ (blk_below HG.out (below_drew (Below.refl _ _)))); (have z_HU := A0_ (Kd.R_below HU.out (below_drew (Below.refl _ _)))); (have z_HL := A0_ (Kd.R_below HL.out (below_drew (Below.refl _ _)))); (have z_HY := A0_ (Kd.R_below HY.out (below_drew (Below.refl _ _)))); (have z_HV := A0_ (V.below HV.out (below_drew (Below.refl _ _)))); (have z_HB := A0_ (below_step HB.out (below_drew (Below.refl _ _)))); (have z_BX := A0_ (blk_below BX.out (below_drew (Below.refl _ _)))); clear HG HU HL HY HV HB BX; (have HG := z_HG); (have HU := z_HU); (have HL := z_HL); (have HY := z_HY); (have HV := z_HV); (have HB := z_HB); (have BX := z_BX); clear z_HG z_HU z_HL z_HY z_HV z_HB z_BX
          refine start_ (n := 11) (S := fun w' => w'.cell? ⟨g, 4, none⟩ = some (.slice Al laid.length cl) ∧ w'.cell? ⟨gx, 0, none⟩ = some (.int .i64 (turnT (tileAt tiles x) t).f0) ∧ w'.cell? ⟨gx, 1, none⟩ = some (.int .i64 (turnT (tileAt tiles x) t).f1) ∧ w'.cell? ⟨gx, 2, none⟩ = some (.int .i64 (turnT (tileAt tiles x) t).f2) ∧ w'.cell? ⟨gx, 3, none⟩ = some (.int .i64 (turnT (tileAt tiles x) t).f3)) (ds := [10]) #[ff,ff,ff,ff,ff,ff,ff,ff,ff,ff,ff] (by kernel_rfl) rfl rfl ⟨(blk_cell HG.out 4).trans rfl, (blk_cell BX.out 0).trans rfl, (blk_cell BX.out 1).trans rfl, (blk_cell BX.out 2).trans rfl, (blk_cell BX.out 3).trans rfl⟩ (fun hHeld => ?_)
          refine with_tabW impl_from.tab14 impl_from.bits14 (fun HT_ HW_ => ?_)
          (generalize (w4.setCell ⟨gu, x.toNat, none⟩ (.bool true)).drew = w5 at HG HU HL HY HV HB BX hHeld ⊢)
          refine pure_ (i := 0) (N := some 100) (v := ?_) (a' := ?_) #[tt,ff,ff,ff,ff,ff,ff,ff,ff,ff,ff] rfl rfl (any_of HT_.out (by kernel_rfl)) (fun _ _ _ h => h) (Or.inl ⟨by rfl, ?_⟩) ?_ ?_
          rotate_left
          ·intro w'; go_simp; with_reducible rfl
          rotate_left
          ·(simp only [Act.put, sia_, sz_, ss_, i64_w, i32_w]); rfl
          refine pure_ (i := 1) (N := some 101) (v := ?_) (a' := ?_) #[tt,tt,ff,ff,ff,ff,ff,ff,ff,ff,ff] rfl rfl (any_of HT_.out (by kernel_rfl)) (fun _ _ _ h => h) (Or.inl ⟨by rfl, ?_⟩) ?_ ?_
          rotate_left
          ·intro w'; go_simp; with_reducible rfl
          rotate_left
          ·(simp only [Act.put, sia_, sz_, ss_, i64_w, i32_w]); rfl
          refine pure_ (i := 2) (N := some 102) (v := ?_) (a' := ?_) #[tt,tt,tt,ff,ff,ff,ff,ff,ff,ff,ff] rfl rfl (any_of HT_.out (by kernel_rfl)) (fun _ _ _ h => h) (Or.inl ⟨by rfl, ?_⟩) ?_ ?_
          rotate_left
          ·intro w'; go_simp; with_reducible rfl
          rotate_left
          ·(simp only [Act.put, sia_, sz_, ss_, i64_w, i32_w]); rfl
          refine pure_ (i := 3) (N := some 103) (v := ?_) (a' := ?_) #[tt,tt,tt,tt,ff,ff,ff,ff,ff,ff,ff] rfl rfl (any_of HT_.out (by kernel_rfl)) (fun _ _ _ h => h) (Or.inl ⟨by rfl, ?_⟩) ?_ ?_
          rotate_left
          ·intro w'; go_simp; with_reducible rfl
          rotate_left
          ·(simp only [Act.put, sia_, sz_, ss_, i64_w, i32_w]); rfl
          refine take_ (i := 4) (N := some 104) (v := ?_) (a' := ?_) #[tt,tt,tt,tt,tt,ff,ff,ff,ff,ff,ff] rfl rfl (take_ofW HT_.out HW_.out (by kernel_rfl)) (fun _ _ _ h => h) (Or.inl ⟨by rfl, ?_⟩) hHeld ?_ ?_
          rotate_left
          ·(rintro w' ⟨s0, s1, s2, s3, s4⟩); go_simp; with_reducible rfl
          rotate_left
          ·(simp only [Act.put, sia_, sz_, ss_, i64_w, i32_w]); rfl
          refine take_ (i := 5) (N := some 105) (v := ?_) (a' := ?_) #[tt,tt,tt,tt,tt,tt,ff,ff,ff,ff,ff] rfl rfl (take_ofW HT_.out HW_.out (by kernel_rfl)) (fun _ _ _ h => h) (Or.inl ⟨by rfl, ?_⟩) hHeld ?_ ?_
          rotate_left
          ·(rintro w' ⟨s0, s1, s2, s3, s4⟩); go_simp; with_reducible rfl
          rotate_left
          ·(simp only [Act.put, sia_, sz_, ss_, i64_w, i32_w]); rfl
          refine one_ (i := 6) (N := some 106) #[tt,tt,tt,tt,tt,tt,tt,ff,ff,ff,ff] rfl rfl (one_of HT_.out (by kernel_rfl)) (by decide) (fun K hK => ?_)
          (refine event_step (v := .slice (some ⟨w5.heap.size, 0, none⟩) 1 1) (w1 := w5.alloc (.cells #[.int .i64 (turnT (tileAt tiles x) t).f0, .int .i64 (turnT (tileAt tiles x) t).f1, .int .i64 (turnT (tileAt tiles x) t).f2, .int .i64 (turnT (tileAt tiles x) t).f3] 24)) (by rfl) ?_ ?_)
          ·(first | (go_simp; done) | (go_simp; rfl))
          refine hK.out _ _ ⟨(blk_cell (blk_alloc HG.out _) 4).trans rfl, (blk_cell (blk_alloc BX.out _) 0).trans rfl, (blk_cell (blk_alloc BX.out _) 1).trans rfl, (blk_cell (blk_alloc BX.out _) 2).trans rfl, (blk_cell (blk_alloc BX.out _) 3).trans rfl⟩ (fun hHeld => ?_)
          clear hK K; (refine norm_ (a' := ?_) ?_ ?_); rotate_left
          ·(show Act.put _ (some 106) _ = _); (simp only [Act.put, sia_, sz_, ss_, i64_w, i32_w]); rfl
          refine one_ (i := 7) (N := some 107) #[tt,tt,tt,tt,tt,tt,tt,tt,ff,ff,ff] rfl rfl (one_of HT_.out (by kernel_rfl)) (by decide) (fun K hK => ?_)
          refine Kd.R_append_step k24 (w0 := w5) (W := w5) w0.heap.size (by rfl) (.tmp 104) (.tmp 106) 34 24 (.agg #[(.int .i64 0), (.int .i64 0), (.int .i64 0), (.int .i64 0)]) 32 rfl Try.underlying34 info24 rfl (by decide) (by omega) (.slice Al laid.length cl) laid (turnT (tileAt tiles x) t) [.int .i64 (turnT (tileAt tiles x) t).f0, .int .i64 (turnT (tileAt tiles x) t).f1, .int .i64 (turnT (tileAt tiles x) t).f2, .int .i64 (turnT (tileAt tiles x) t).f3] (fun _ => True) (fun _ => False) rfl rfl ?aP (fun _ hk => hk.elim) (fun _ _ => trivial) ?aO (Below.refl _ _) ?aS ?aL ?_
          ((case aP => exact k24_mkM _ _ _ (turnT (tileAt tiles x) t))); ((case aO => exact HL.out)); ((case aS => exact HB.out.size)); ((case aL => have := NL.out; omega)); intro v6 w6 ho hb hg hat; (obtain ⟨Al2, cl2, rfl⟩ := Kd.R_slice ho); (have bx6 := blk_grown BX.out hg (by intro he; exact NX.out he)); (have hx6_0 : w6.cell? ⟨gx, 0, none⟩ = some (.int .i64 (turnT (tileAt tiles x) t).f0) := (blk_cell bx6 0).trans rfl); (have hx6_1 : w6.cell? ⟨gx, 1, none⟩ = some (.int .i64 (turnT (tileAt tiles x) t).f1) := (blk_cell bx6 1).trans rfl); (have hx6_2 : w6.cell? ⟨gx, 2, none⟩ = some (.int .i64 (turnT (tileAt tiles x) t).f2) := (blk_cell bx6 2).trans rfl); (have hx6_3 : w6.cell? ⟨gx, 3, none⟩ = some (.int .i64 (turnT (tileAt tiles x) t).f3) := (blk_cell bx6 3).trans rfl); (have z_HG := A0_ (blk_grown HG.out hg (Kd.R_ne HL.out HG.out (by decide)))); (have z_HU := A0_ (Kd.R_over' HU.out (Kd.R_typed HL.out) (by decide) hg)); (have z_HY := A0_ (Kd.R_over' HY.out (Kd.R_typed HL.out) (by decide) hg))
          have z_HV := A0_ (V.grown HV.out hg (fun k hk => ⟨_, _, (Kd.R_typed HL.out k hk).choose_spec, .inl rfl⟩))
          (have z_HB := A0_ (below_weaken HB.out (Nat.le_refl _) hb)); clear HG HU HY HV HB; (have HG := z_HG); (have HU := z_HU); (have HY := z_HY); (have HV := z_HV); (have HB := z_HB); clear z_HG z_HU z_HY z_HV z_HB; (have z_HL := A0_ (ho)); clear HL; (have HL := z_HL); clear z_HL; clear BX; (have hy4 : w6.cell? ⟨g, 4, none⟩ = some (.slice Al laid.length cl) := (blk_cell HG.out 4).trans rfl); (have hz4 := blk_frozen HG.out 4)
          refine hK.out _ _ ⟨hy4, hx6_0, hx6_1, hx6_2, hx6_3⟩ (fun hHeld => ?_)
          clear hK K; (refine norm_ (a' := ?_) ?_ ?_); rotate_left
          ·(show Act.put _ (some 107) _ = _); (simp only [Act.put, sia_, sz_, ss_, i64_w, i32_w]); rfl
          refine pure_ (i := 8) (N := some 108) (v := ?_) (a' := ?_) #[tt,tt,tt,tt,tt,tt,tt,tt,tt,ff,ff] rfl rfl (any_of HT_.out (by kernel_rfl)) (fun _ _ _ h => h) (Or.inl ⟨by rfl, ?_⟩) ?_ ?_
          rotate_left
          ·intro w'; go_simp; with_reducible rfl
          rotate_left
          ·(simp only [Act.put, sia_, sz_, ss_, i64_w, i32_w]); rfl
          refine pure_ (i := 9) (N := some 109) (v := ?_) (a' := ?_) #[tt,tt,tt,tt,tt,tt,tt,tt,tt,tt,ff] rfl rfl (any_of HT_.out (by kernel_rfl)) (fun _ _ _ h => h) (Or.inl ⟨by rfl, ?_⟩) ?_ ?_
          rotate_left
          ·intro w'; go_simp; with_reducible rfl
          rotate_left
          ·(simp only [Act.put, sia_, sz_, ss_, i64_w, i32_w]); rfl
          refine last_ (i := 10) (N := none) #[tt,tt,tt,tt,tt,tt,tt,tt,tt,tt,tt] rfl rfl (one_of HT_.out (by kernel_rfl)) (by decide) (fun K hK => ?_)
          (refine skip_ (w1 := w6.setCell ⟨g, 4, none⟩ (.slice Al2 (laid ++ [turnT (tileAt tiles x) t]).length cl2)) (by rfl) rfl (by first | (go_simp; done) | (go_simp; rfl)) ?_); (refine hK.out _ _ ?_); clear hK K; (refine done_ (done_of HT_.out (by kernel_rfl)) ?_); (obtain ⟨L2, hL2⟩ : ∃ L, L = laid ++ [(turnT (tileAt tiles x) t)] := ⟨_, rfl⟩); (rw [← hL2] at HL HCS ⊢); (have HLE := A0_ hL2); (have HLN := A0_ (show L2.length = laid.length + 1 from by rw [hL2]; simp)); (have HO2 := A0_ (show L2.all okT = true from by rw [hL2, List.all_append, hlo]; simp [hox])); (obtain ⟨Y2, hY2⟩ : ∃ Y, Y = layout ++ [(⟨x, t⟩ : St)] := ⟨_, rfl⟩); (rw [← hY2] at HCS); (have HYE := A0_ hY2); (have HYN := A0_ (show Y2.length = layout.length + 1 from by rw [hY2]; simp)); clear hL2 hY2; (have HN2 := A0_ (show L2.length + d = tiles.length from by have := HD.out; have := HLN.out; omega)); (have HY2 := A0_ (show Y2.length = L2.length from by have := HYL.out; have := HLN.out; have := HYN.out; omega)); (obtain ⟨s9, hs9⟩ : ∃ z, z = fromL step tiles wd h d U2 L2 Y2 s2 := ⟨_, rfl⟩); (have HS9 := A0_ hs9); (have HSB := A0_ (show 0 ≤ s9.steps ∧ s9.steps ≤ 5000 from by rw [hs9]; exact fromL_steps step tiles wd h d U2 L2 Y2 s2 ⟨HS2.out.2.2.1, HS2.out.2.2.2⟩)); (rw [← hs9] at HCS); (replace HCS := A0_ HCS); clear hs9; (have z_HU := A0_ (lay_self (A0 := none) HG.out HU.out (by decide) 4 ((.slice Al2 L2.length cl2)))); (have z_HL := A0_ (lay_self (A0 := none) HG.out HL.out (by decide) 4 ((.slice Al2 L2.length cl2)))); (have z_HY := A0_ (lay_self (A0 := none) HG.out HY.out (by decide) 4 ((.slice Al2 L2.length cl2)))); (have z_HV := A0_ (V.set (p := ⟨g, 4, none⟩) ((.slice Al2 L2.length cl2)) HV.out HG.out (.inl rfl))); (have z_HB := A0_ (below_set (g := g) (j := 4) (v := (.slice Al2 L2.length cl2)) HB.out hg0.out)); clear HU HL HY HV HB; (have HU := z_HU); (have HL := z_HL); (have HY := z_HY); (have HV := z_HV); (have HB := z_HB); clear z_HU z_HL z_HY z_HV z_HB; (have z_HG := A0_ (blk_put (cs' := #[.slice (some ad) tiles.length c0, .int .i64 wd, .int .i64 h, .slice (some ⟨gu, 0, none⟩) U2.length cu, .slice Al2 L2.length cl2, .slice Ay layout.length cy, .int .i64 s2.steps, .func (.func f) #[] caps, .bool false, .bool false]) HG.out 4 (.slice Al2 L2.length cl2) rfl)); clear HG; (have HG := z_HG); clear z_HG; (generalize (w6.setCell ⟨g, 4, none⟩ (.slice Al2 L2.length cl2)) = w7 at HG HU HL HY HV HB ⊢); (have h5 : w7.cell? ⟨g, 5, none⟩ = some (.slice Ay layout.length cy) := (blk_cell HG.out 5).trans rfl)
          go_wp2_with (first | ((with_reducible refine gate_builtin (b := .append) (xs := #[.tmp 114, .tmp 118]) rfl ?_); at_builtin; refine Kd.R_append k74 (w0 := w7) (W := w7) w0.heap.size rfl (.tmp 114) (.tmp 118) 51 74 (.agg #[(.int .i64 0), (.int .i64 0)]) 16 rfl Try.underlying51 info74 rfl (by decide) (by omega) (.slice Ay layout.length cy) layout (⟨x, t⟩ : St) [.int .i64 x, .int .i64 t] (fun _ => True) (fun _ => False) rfl rfl ?aP (fun _ hk => hk.elim) (fun _ _ => trivial) ?aO (Below.refl _ _) ?aS ?aL ?_; (case aP => exact k74_mkM _ _ _ (⟨x, t⟩ : St)); (case aO => exact HY.out); (case aS => exact HB.out.size); (case aL => have := NY.out; omega); intro v8 w8 ho hb hg hat; have z_HG := A0_ (blk_grown HG.out hg (Kd.R_ne HY.out HG.out (by decide))); have z_HU := A0_ (Kd.R_over' HU.out (Kd.R_typed HY.out) (by decide) hg); have z_HL := A0_ (Kd.R_over' HL.out (Kd.R_typed HY.out) (by decide) hg); have z_HV := A0_ (V.grown HV.out hg (fun k hk => by obtain ⟨cs_, hcs_⟩ := Kd.R_typed HY.out k hk; exact ⟨cs_, _, hcs_, .inr rfl⟩)); have z_HB := A0_ (below_weaken HB.out (Nat.le_refl _) hb); clear HG HU HL HV HB; have HG := z_HG; have HU := z_HU; have HL := z_HL; have HV := z_HV; have HB := z_HB; clear z_HG z_HU z_HL z_HV z_HB; rw [← HYE.out] at ho; obtain ⟨Ay2, cy2, rfl⟩ := Kd.R_slice ho; have z_HY := A0_ (ho); clear HY; have HY := z_HY; clear z_HY; clear ho hb hg hat; have h5 : w8.cell? ⟨g, 5, none⟩ = some (.slice Ay layout.length cy) := (blk_cell HG.out 5).trans rfl; have z5 := blk_frozen HG.out 5; have HI8 := A0_ (show IsLay w0 (w8.setCell ⟨g, 5, none⟩ (.slice Ay2 Y2.length cy2)) g (.func (.func f) #[] caps) tiles wd h U2 L2 Y2 s2.steps false false from ⟨_, _, _, _, _, _, _, _, blk_put (cs' := #[.slice (some ad) tiles.length c0, .int .i64 wd, .int .i64 h, .slice (some ⟨gu, 0, none⟩) U2.length cu, .slice Al2 L2.length cl2, .slice Ay2 Y2.length cy2, .int .i64 s2.steps, .func (.func f) #[] caps, .bool false, .bool false]) HG.out 5 _ rfl, hg0.out, HC.out, lay_self (A0 := none) HG.out HU.out (by decide) 5 _, lay_self (A0 := none) HG.out HL.out (by decide) 5 _, lay_self (A0 := none) HG.out HY.out (by decide) 5 _⟩); have HCALL := A0_ (IH.out U2 L2 Y2 s2 _ HN2.out HU2.out HY2.out HO2.out ⟨HS2.out.2.2.1, HS2.out.2.2.2⟩ HS2.out.1 HS2.out.2.1 (below_set (g := g) (j := 5) (v := .slice Ay2 Y2.length cy2) HB.out hg0.out) HI8.out (V.set (p := ⟨g, 5, none⟩) (.slice Ay2 Y2.length cy2) HV.out HG.out (.inl rfl))); rw [← HS9.out] at HCALL; clear HI8 HG HU HL HY HV HB) | (go_at_call 79; refine HCALL.out.mono ?_; rintro e w9 ⟨rfl, hi, hv, hb⟩; clear HCALL h5 z5; have HV := A0_ hv; have HB := A0_ hb; obtain ⟨A1, c1, Au1, cu1, Al1, cl1, Ay1, cy1, hG, hge, hC1, hU1, hL1, hY1⟩ := hi; obtain ⟨gv, rfl⟩ := open_used hU1 PX.out QU2.out; have HG := A0_ hG; have HU := A0_ hU1; have HL := A0_ hL1; have HY := A0_ hY1; have HC1 := A0_ hC1; have h3 := (blk_cell hG 3).trans rfl; obtain ⟨hcu_, hfu_⟩ := Kd.R_celln false hU1 x PX.out QU2.out; clear hv hb hG hge hC1 hU1 hL1 hY1))
          clear h3 hcu_ hfu_; (obtain ⟨csu, hcu⟩ := Kd.R_typed HU.out gv rfl); (have hgu_ := Kd.R_base HU.out gv rfl); (have z_HL := A0_ (R_apart (p := ⟨gv, x.toNat, none⟩) HL.out hcu (by decide) (.bool false))); (have z_HY := A0_ (R_apart (p := ⟨gv, x.toNat, none⟩) HY.out hcu (by decide) (.bool false))); (have z_HV := A0_ (V.set (p := ⟨gv, x.toNat, none⟩) (.bool false) HV.out hcu (.inr (.inl rfl)))); (have z_HB := A0_ (below_set (g := gv) (j := x.toNat) (v := .bool false) HB.out hgu_))
          have z_HG := A0_ (blk_far (p := ⟨gv, x.toNat, none⟩) HG.out (fun he => (Kd.R_ne HU.out HG.out (by decide)) (by rw [he]; rfl)) (.bool false))
          (have z_HU := A0_ (Kd.R_putn HU.out x false)); clear HL HY HV HB HG HU; (have HL := z_HL); (have HY := z_HY); (have HV := z_HV); (have HB := z_HB); (have HG := z_HG); (have HU := z_HU); clear z_HL z_HY z_HV z_HB z_HG z_HU; clear hcu hgu_; (have HUB2 := A0_ (show U2.set x.toNat false = used from by rw [HUE.out, List.set_set]; exact set_back used x.toNat HUF.out (by have := QU.out; have := PX.out; omega))); (rw [HUB2.out] at HU); (have z_HG := A0_ (blk_below HG.out (below_drew (Below.refl _ _)))); (have z_HU := A0_ (Kd.R_below HU.out (below_drew (Below.refl _ _)))); (have z_HL := A0_ (Kd.R_below HL.out (below_drew (Below.refl _ _)))); (have z_HY := A0_ (Kd.R_below HY.out (below_drew (Below.refl _ _)))); (have z_HV := A0_ (V.below HV.out (below_drew (Below.refl _ _)))); (have z_HB := A0_ (below_step HB.out (below_drew (Below.refl _ _)))); clear HG HU HL HY HV HB; (have HG := z_HG); (have HU := z_HU); (have HL := z_HL); (have HY := z_HY); (have HV := z_HV); (have HB := z_HB); clear z_HG z_HU z_HL z_HY z_HV z_HB; (obtain ⟨i0_, hi0_, _, _, _⟩ := info_parts info24); (have hcut_ := cut_to (P := Try.prog) 34 24 .i64 Try.underlying34 hi0_ Al1 L2.length cl1 (laid.length : Int) (by omega) (by have := HLN.out; omega) (Kd.R_reads' HL.out).2.1); (simp only [Int.toNat_natCast] at hcut_); (have hws_ : wrap64 ((L2.length : Int) - 1) = (laid.length : Int) := by have := HLN.out; have := NL.out; unfold wrap64; omega)
          refine start_ (n := 15) (S := fun w' => w'.cell? ⟨g, 4, none⟩ = some (.slice Al1 L2.length cl1)) (ds := [14]) #[ff,ff,ff,ff,ff,ff,ff,ff,ff,ff,ff,ff,ff,ff,ff] (by kernel_rfl) rfl rfl ((blk_cell HG.out 4).trans rfl) (fun hHeld => ?_)
          refine with_tabW impl_from.tab18 impl_from.bits18 (fun HT_ HW_ => ?_)
          (generalize (w9.setCell ⟨gv, x.toNat, none⟩ (.bool false)).drew = w10 at HG HU HL HY HV HB hHeld ⊢)
          refine pure_ (i := 0) (N := some 130) (v := ?_) (a' := ?_) #[tt,ff,ff,ff,ff,ff,ff,ff,ff,ff,ff,ff,ff,ff,ff] rfl rfl (any_of HT_.out (by kernel_rfl)) (fun _ _ _ h => h) (Or.inl ⟨by rfl, ?_⟩) ?_ ?_
          rotate_left
          ·intro w'; go_simp; with_reducible rfl
          rotate_left
          ·(simp only [Act.put, sia_, sz_, ss_, i64_w, i32_w]); rfl
          refine pure_ (i := 1) (N := some 131) (v := ?_) (a' := ?_) #[tt,tt,ff,ff,ff,ff,ff,ff,ff,ff,ff,ff,ff,ff,ff] rfl rfl (any_of HT_.out (by kernel_rfl)) (fun _ _ _ h => h) (Or.inl ⟨by rfl, ?_⟩) ?_ ?_
          rotate_left
          ·intro w'; go_simp; with_reducible rfl
          rotate_left
          ·(simp only [Act.put, sia_, sz_, ss_, i64_w, i32_w]); rfl
          refine pure_ (i := 2) (N := some 132) (v := ?_) (a' := ?_) #[tt,tt,tt,ff,ff,ff,ff,ff,ff,ff,ff,ff,ff,ff,ff] rfl rfl (any_of HT_.out (by kernel_rfl)) (fun _ _ _ h => h) (Or.inl ⟨by rfl, ?_⟩) ?_ ?_
          rotate_left
          ·intro w'; go_simp; with_reducible rfl
          rotate_left
          ·(simp only [Act.put, sia_, sz_, ss_, i64_w, i32_w]); rfl
          refine pure_ (i := 3) (N := some 133) (v := ?_) (a' := ?_) #[tt,tt,tt,tt,ff,ff,ff,ff,ff,ff,ff,ff,ff,ff,ff] rfl rfl (any_of HT_.out (by kernel_rfl)) (fun _ _ _ h => h) (Or.inl ⟨by rfl, ?_⟩) ?_ ?_
          rotate_left
          ·intro w'; go_simp; with_reducible rfl
          rotate_left
          ·(simp only [Act.put, sia_, sz_, ss_, i64_w, i32_w]); rfl
          refine take_ (i := 4) (N := some 134) (v := ?_) (a' := ?_) #[tt,tt,tt,tt,tt,ff,ff,ff,ff,ff,ff,ff,ff,ff,ff] rfl rfl (take_ofW HT_.out HW_.out (by kernel_rfl)) (fun _ _ _ h => h) (Or.inl ⟨by rfl, ?_⟩) hHeld ?_ ?_
          rotate_left
          ·(rintro w' s0); go_simp; with_reducible rfl
          rotate_left
          ·(simp only [Act.put, sia_, sz_, ss_, i64_w, i32_w]); rfl
          refine pure_ (i := 5) (N := some 135) (v := ?_) (a' := ?_) #[tt,tt,tt,tt,tt,tt,ff,ff,ff,ff,ff,ff,ff,ff,ff] rfl rfl (any_of HT_.out (by kernel_rfl)) (fun _ _ _ h => h) (Or.inl ⟨by rfl, ?_⟩) ?_ ?_
          rotate_left
          ·intro w'; go_simp; with_reducible rfl
          rotate_left
          ·(simp only [Act.put, sia_, sz_, ss_, i64_w, i32_w]); rfl
          refine pure_ (i := 6) (N := some 136) (v := ?_) (a' := ?_) #[tt,tt,tt,tt,tt,tt,tt,ff,ff,ff,ff,ff,ff,ff,ff] rfl rfl (any_of HT_.out (by kernel_rfl)) (fun _ _ _ h => h) (Or.inl ⟨by rfl, ?_⟩) ?_ ?_
          rotate_left
          ·intro w'; go_simp; with_reducible rfl
          rotate_left
          ·(simp only [Act.put, sia_, sz_, ss_, i64_w, i32_w]); rfl
          refine pure_ (i := 7) (N := some 137) (v := ?_) (a' := ?_) #[tt,tt,tt,tt,tt,tt,tt,tt,ff,ff,ff,ff,ff,ff,ff] rfl rfl (any_of HT_.out (by kernel_rfl)) (fun _ _ _ h => h) (Or.inl ⟨by rfl, ?_⟩) ?_ ?_
          rotate_left
          ·intro w'; go_simp; with_reducible rfl
          rotate_left
          ·(simp only [Act.put, sia_, sz_, ss_, i64_w, i32_w]); rfl
          refine take_ (i := 8) (N := some 138) (v := ?_) (a' := ?_) #[tt,tt,tt,tt,tt,tt,tt,tt,tt,ff,ff,ff,ff,ff,ff] rfl rfl (take_ofW HT_.out HW_.out (by kernel_rfl)) (fun _ _ _ h => h) (Or.inl ⟨by rfl, ?_⟩) hHeld ?_ ?_
          rotate_left
          ·(rintro w' s0); go_simp; with_reducible rfl
          rotate_left
          ·(simp only [Act.put, sia_, sz_, ss_, i64_w, i32_w]); rfl
          refine pure_ (i := 9) (N := some 139) (v := ?_) (a' := ?_) #[tt,tt,tt,tt,tt,tt,tt,tt,tt,tt,ff,ff,ff,ff,ff] rfl rfl (any_of HT_.out (by kernel_rfl)) (fun _ _ _ h => h) (Or.inl ⟨by rfl, ?_⟩) ?_ ?_
          rotate_left
          ·intro w'; go_simp; with_reducible rfl
          rotate_left
          ·(simp only [Act.put, sia_, sz_, ss_, i64_w, i32_w]); rfl
          refine pure_ (i := 10) (N := some 140) (v := ?_) (a' := ?_) #[tt,tt,tt,tt,tt,tt,tt,tt,tt,tt,tt,ff,ff,ff,ff] rfl rfl (any_of HT_.out (by kernel_rfl)) (fun _ _ _ h => h) (Or.inl ⟨by rfl, ?_⟩) ?_ ?_
          rotate_left
          ·intro w'; go_simp; with_reducible rfl
          rotate_left
          ·(simp only [Act.put, sia_, sz_, ss_, i64_w, i32_w]); rfl
          refine pure_ (i := 11) (N := some 141) (v := ?_) (a' := ?_) #[tt,tt,tt,tt,tt,tt,tt,tt,tt,tt,tt,tt,ff,ff,ff] rfl rfl (any_of HT_.out (by kernel_rfl)) (fun _ _ _ h => h) (Or.inl ⟨by rfl, ?_⟩) ?_ ?_
          rotate_left
          ·intro w'; go_simp; with_reducible rfl
          rotate_left
          ·(simp only [Act.put, sia_, sz_, ss_, i64_w, i32_w]); rfl
          refine pure_ (i := 12) (N := some 142) (v := ?_) (a' := ?_) #[tt,tt,tt,tt,tt,tt,tt,tt,tt,tt,tt,tt,tt,ff,ff] rfl rfl (any_of HT_.out (by kernel_rfl)) (fun _ _ _ h => h) (Or.inl ⟨by rfl, ?_⟩) ?_ ?_
          rotate_left
          ·intro w'; go_simp; with_reducible rfl
          rotate_left
          ·(simp only [Act.put, sia_, sz_, ss_, i64_w, i32_w]); rfl
          refine pure_ (i := 13) (N := some 143) (v := ?_) (a' := ?_) #[tt,tt,tt,tt,tt,tt,tt,tt,tt,tt,tt,tt,tt,tt,ff] rfl rfl (any_of HT_.out (by kernel_rfl)) (fun _ _ _ h => h) (Or.inl ⟨by rfl, ?_⟩) ?_ ?_
          rotate_left
          ·intro w'; go_simp; with_reducible rfl
          rotate_left
          ·(simp only [Act.put, sia_, sz_, ss_, i64_w, i32_w]); rfl
          refine last_ (i := 14) (N := none) #[tt,tt,tt,tt,tt,tt,tt,tt,tt,tt,tt,tt,tt,tt,tt] rfl rfl (one_of HT_.out (by kernel_rfl)) (by decide) (fun K hK => ?_)
          (have hy_ : w10.cell? ⟨g, 4, none⟩ = some (.slice Al1 L2.length cl1) := (blk_cell HG.out 4).trans rfl); (have hz_ := blk_frozen HG.out 4); (refine skip_ (w1 := w10.setCell ⟨g, 4, none⟩ (.slice Al1 laid.length cl1)) (by rfl) rfl (by first | (go_simp; done) | (go_simp; rfl)) ?_); (refine hK.out _ _ ?_); clear hK K; (refine done_ (done_of HT_.out (by kernel_rfl)) ?_); clear hcut_ hws_ hi0_; (have z_HU := A0_ (lay_self (A0 := none) HG.out HU.out (by decide) 4 ((.slice Al1 laid.length cl1)))); (have z_HL := A0_ (lay_self (A0 := none) HG.out HL.out (by decide) 4 ((.slice Al1 laid.length cl1)))); (have z_HY := A0_ (lay_self (A0 := none) HG.out HY.out (by decide) 4 ((.slice Al1 laid.length cl1)))); (have z_HV := A0_ (V.set (p := ⟨g, 4, none⟩) ((.slice Al1 laid.length cl1)) HV.out HG.out (.inl rfl))); (have z_HB := A0_ (below_set (g := g) (j := 4) (v := (.slice Al1 laid.length cl1)) HB.out hg0.out)); clear HU HL HY HV HB; (have HU := z_HU); (have HL := z_HL); (have HY := z_HY); (have HV := z_HV); (have HB := z_HB); clear z_HU z_HL z_HY z_HV z_HB; (have z_HG := A0_ (blk_put (cs' := #[.slice A1 tiles.length c1, .int .i64 wd, .int .i64 h, .slice (some ⟨gv, 0, none⟩) U2.length cu1, .slice Al1 laid.length cl1, .slice Ay1 Y2.length cy1, .int .i64 s9.steps, .func (.func f) #[] caps, .bool s9.ended, .bool s9.broken]) HG.out 4 (.slice Al1 laid.length cl1) rfl)); clear HG; (have HG := z_HG); clear z_HG
          have HT_ := A0_ (show Kd.R k24 24 _ w0.heap.size (fun _ => True) (.slice Al1 laid.length cl1) laid from by have q := Kd.R_take (m := laid.length) HL.out (by have := HLN.out; omega); rw [HLE.out, List.take_left] at q; exact q)
          clear HL; (have HL := HT_); clear HT_; (generalize (w10.setCell ⟨g, 4, none⟩ (.slice Al1 laid.length cl1)) = w11 at HG HU HL HY HV HB ⊢); (try go_wp2); (have z_HG := A0_ (blk_below HG.out (below_drew (Below.refl _ _)))); (have z_HU := A0_ (Kd.R_below HU.out (below_drew (Below.refl _ _)))); (have z_HL := A0_ (Kd.R_below HL.out (below_drew (Below.refl _ _)))); (have z_HY := A0_ (Kd.R_below HY.out (below_drew (Below.refl _ _)))); (have z_HV := A0_ (V.below HV.out (below_drew (Below.refl _ _)))); (have z_HB := A0_ (below_step HB.out (below_drew (Below.refl _ _)))); clear HG HU HL HY HV HB; (have HG := z_HG); (have HU := z_HU); (have HL := z_HL); (have HY := z_HY); (have HV := z_HV); (have HB := z_HB); clear z_HG z_HU z_HL z_HY z_HV z_HB; (obtain ⟨i0_, hi0_, _, _, _⟩ := info_parts info74); (have hcut_ := cut_to (P := Try.prog) 51 74 .i64 Try.underlying51 hi0_ Ay1 Y2.length cy1 (layout.length : Int) (by omega) (by have := HYN.out; omega) (Kd.R_reads' HY.out).2.1); (simp only [Int.toNat_natCast] at hcut_); (have hws_ : wrap64 ((Y2.length : Int) - 1) = (layout.length : Int) := by have := HYN.out; have := NY.out; unfold wrap64; omega)
          refine start_ (n := 15) (S := fun w' => w'.cell? ⟨g, 5, none⟩ = some (.slice Ay1 Y2.length cy1)) (ds := [14]) #[ff,ff,ff,ff,ff,ff,ff,ff,ff,ff,ff,ff,ff,ff,ff] (by kernel_rfl) rfl rfl ((blk_cell HG.out 5).trans rfl) (fun hHeld => ?_)
          refine with_tabW impl_from.tab19 impl_from.bits19 (fun HT_ HW_ => ?_)
          (generalize w11.drew = w12 at HG HU HL HY HV HB hHeld ⊢)
          refine pure_ (i := 0) (N := some 144) (v := ?_) (a' := ?_) #[tt,ff,ff,ff,ff,ff,ff,ff,ff,ff,ff,ff,ff,ff,ff] rfl rfl (any_of HT_.out (by kernel_rfl)) (fun _ _ _ h => h) (Or.inl ⟨by rfl, ?_⟩) ?_ ?_
          rotate_left
          ·intro w'; go_simp; with_reducible rfl
          rotate_left
          ·(simp only [Act.put, sia_, sz_, ss_, i64_w, i32_w]); rfl
          refine pure_ (i := 1) (N := some 145) (v := ?_) (a' := ?_) #[tt,tt,ff,ff,ff,ff,ff,ff,ff,ff,ff,ff,ff,ff,ff] rfl rfl (any_of HT_.out (by kernel_rfl)) (fun _ _ _ h => h) (Or.inl ⟨by rfl, ?_⟩) ?_ ?_
          rotate_left
          ·intro w'; go_simp; with_reducible rfl
          rotate_left
          ·(simp only [Act.put, sia_, sz_, ss_, i64_w, i32_w]); rfl
          refine pure_ (i := 2) (N := some 146) (v := ?_) (a' := ?_) #[tt,tt,tt,ff,ff,ff,ff,ff,ff,ff,ff,ff,ff,ff,ff] rfl rfl (any_of HT_.out (by kernel_rfl)) (fun _ _ _ h => h) (Or.inl ⟨by rfl, ?_⟩) ?_ ?_
          rotate_left
          ·intro w'; go_simp; with_reducible rfl
          rotate_left
          ·(simp only [Act.put, sia_, sz_, ss_, i64_w, i32_w]); rfl
          refine pure_ (i := 3) (N := some 147) (v := ?_) (a' := ?_) #[tt,tt,tt,tt,ff,ff,ff,ff,ff,ff,ff,ff,ff,ff,ff] rfl rfl (any_of HT_.out (by kernel_rfl)) (fun _ _ _ h => h) (Or.inl ⟨by rfl, ?_⟩) ?_ ?_
          rotate_left
          ·intro w'; go_simp; with_reducible rfl
          rotate_left
          ·(simp only [Act.put, sia_, sz_, ss_, i64_w, i32_w]); rfl
          refine take_ (i := 4) (N := some 148) (v := ?_) (a' := ?_) #[tt,tt,tt,tt,tt,ff,ff,ff,ff,ff,ff,ff,ff,ff,ff] rfl rfl (take_ofW HT_.out HW_.out (by kernel_rfl)) (fun _ _ _ h => h) (Or.inl ⟨by rfl, ?_⟩) hHeld ?_ ?_
          rotate_left
          ·(rintro w' s0); go_simp; with_reducible rfl
          rotate_left
          ·(simp only [Act.put, sia_, sz_, ss_, i64_w, i32_w]); rfl
          refine pure_ (i := 5) (N := some 149) (v := ?_) (a' := ?_) #[tt,tt,tt,tt,tt,tt,ff,ff,ff,ff,ff,ff,ff,ff,ff] rfl rfl (any_of HT_.out (by kernel_rfl)) (fun _ _ _ h => h) (Or.inl ⟨by rfl, ?_⟩) ?_ ?_
          rotate_left
          ·intro w'; go_simp; with_reducible rfl
          rotate_left
          ·(simp only [Act.put, sia_, sz_, ss_, i64_w, i32_w]); rfl
          refine pure_ (i := 6) (N := some 150) (v := ?_) (a' := ?_) #[tt,tt,tt,tt,tt,tt,tt,ff,ff,ff,ff,ff,ff,ff,ff] rfl rfl (any_of HT_.out (by kernel_rfl)) (fun _ _ _ h => h) (Or.inl ⟨by rfl, ?_⟩) ?_ ?_
          rotate_left
          ·intro w'; go_simp; with_reducible rfl
          rotate_left
          ·(simp only [Act.put, sia_, sz_, ss_, i64_w, i32_w]); rfl
          refine pure_ (i := 7) (N := some 151) (v := ?_) (a' := ?_) #[tt,tt,tt,tt,tt,tt,tt,tt,ff,ff,ff,ff,ff,ff,ff] rfl rfl (any_of HT_.out (by kernel_rfl)) (fun _ _ _ h => h) (Or.inl ⟨by rfl, ?_⟩) ?_ ?_
          rotate_left
          ·intro w'; go_simp; with_reducible rfl
          rotate_left
          ·(simp only [Act.put, sia_, sz_, ss_, i64_w, i32_w]); rfl
          refine take_ (i := 8) (N := some 152) (v := ?_) (a' := ?_) #[tt,tt,tt,tt,tt,tt,tt,tt,tt,ff,ff,ff,ff,ff,ff] rfl rfl (take_ofW HT_.out HW_.out (by kernel_rfl)) (fun _ _ _ h => h) (Or.inl ⟨by rfl, ?_⟩) hHeld ?_ ?_
          rotate_left
          ·(rintro w' s0); go_simp; with_reducible rfl
          rotate_left
          ·(simp only [Act.put, sia_, sz_, ss_, i64_w, i32_w]); rfl
          refine pure_ (i := 9) (N := some 153) (v := ?_) (a' := ?_) #[tt,tt,tt,tt,tt,tt,tt,tt,tt,tt,ff,ff,ff,ff,ff] rfl rfl (any_of HT_.out (by kernel_rfl)) (fun _ _ _ h => h) (Or.inl ⟨by rfl, ?_⟩) ?_ ?_
          rotate_left
          ·intro w'; go_simp; with_reducible rfl
          rotate_left
          ·(simp only [Act.put, sia_, sz_, ss_, i64_w, i32_w]); rfl
          refine pure_ (i := 10) (N := some 154) (v := ?_) (a' := ?_) #[tt,tt,tt,tt,tt,tt,tt,tt,tt,tt,tt,ff,ff,ff,ff] rfl rfl (any_of HT_.out (by kernel_rfl)) (fun _ _ _ h => h) (Or.inl ⟨by rfl, ?_⟩) ?_ ?_
          rotate_left
          ·intro w'; go_simp; with_reducible rfl
          rotate_left
          ·(simp only [Act.put, sia_, sz_, ss_, i64_w, i32_w]); rfl
          refine pure_ (i := 11) (N := some 155) (v := ?_) (a' := ?_) #[tt,tt,tt,tt,tt,tt,tt,tt,tt,tt,tt,tt,ff,ff,ff] rfl rfl (any_of HT_.out (by kernel_rfl)) (fun _ _ _ h => h) (Or.inl ⟨by rfl, ?_⟩) ?_ ?_
          rotate_left
          ·intro w'; go_simp; with_reducible rfl
          rotate_left
          ·(simp only [Act.put, sia_, sz_, ss_, i64_w, i32_w]); rfl
          refine pure_ (i := 12) (N := some 156) (v := ?_) (a' := ?_) #[tt,tt,tt,tt,tt,tt,tt,tt,tt,tt,tt,tt,tt,ff,ff] rfl rfl (any_of HT_.out (by kernel_rfl)) (fun _ _ _ h => h) (Or.inl ⟨by rfl, ?_⟩) ?_ ?_
          rotate_left
          ·intro w'; go_simp; with_reducible rfl
          rotate_left
          ·(simp only [Act.put, sia_, sz_, ss_, i64_w, i32_w]); rfl
          refine pure_ (i := 13) (N := some 157) (v := ?_) (a' := ?_) #[tt,tt,tt,tt,tt,tt,tt,tt,tt,tt,tt,tt,tt,tt,ff] rfl rfl (any_of HT_.out (by kernel_rfl)) (fun _ _ _ h => h) (Or.inl ⟨by rfl, ?_⟩) ?_ ?_
          rotate_left
          ·intro w'; go_simp; with_reducible rfl
          rotate_left
          ·(simp only [Act.put, sia_, sz_, ss_, i64_w, i32_w]); rfl
          refine last_ (i := 14) (N := none) #[tt,tt,tt,tt,tt,tt,tt,tt,tt,tt,tt,tt,tt,tt,tt] rfl rfl (one_of HT_.out (by kernel_rfl)) (by decide) (fun K hK => ?_)
          (have hy_ : w12.cell? ⟨g, 5, none⟩ = some (.slice Ay1 Y2.length cy1) := (blk_cell HG.out 5).trans rfl); (have hz_ := blk_frozen HG.out 5); (refine skip_ (w1 := w12.setCell ⟨g, 5, none⟩ (.slice Ay1 layout.length cy1)) (by rfl) rfl (by first | (go_simp; done) | (go_simp; rfl)) ?_); (refine hK.out _ _ ?_); clear hK K; (refine done_ (done_of HT_.out (by kernel_rfl)) ?_); clear hcut_ hws_ hi0_; (have z_HU := A0_ (lay_self (A0 := none) HG.out HU.out (by decide) 5 ((.slice Ay1 layout.length cy1)))); (have z_HL := A0_ (lay_self (A0 := none) HG.out HL.out (by decide) 5 ((.slice Ay1 layout.length cy1)))); (have z_HY := A0_ (lay_self (A0 := none) HG.out HY.out (by decide) 5 ((.slice Ay1 layout.length cy1)))); (have z_HV := A0_ (V.set (p := ⟨g, 5, none⟩) ((.slice Ay1 layout.length cy1)) HV.out HG.out (.inl rfl))); (have z_HB := A0_ (below_set (g := g) (j := 5) (v := (.slice Ay1 layout.length cy1)) HB.out hg0.out)); clear HU HL HY HV HB; (have HU := z_HU); (have HL := z_HL); (have HY := z_HY); (have HV := z_HV); (have HB := z_HB); clear z_HU z_HL z_HY z_HV z_HB; (have z_HG := A0_ (blk_put (cs' := #[.slice A1 tiles.length c1, .int .i64 wd, .int .i64 h, .slice (some ⟨gv, 0, none⟩) U2.length cu1, .slice Al1 laid.length cl1, .slice Ay1 layout.length cy1, .int .i64 s9.steps, .func (.func f) #[] caps, .bool s9.ended, .bool s9.broken]) HG.out 5 (.slice Ay1 layout.length cy1) rfl)); clear HG; (have HG := z_HG); clear z_HG
          have HT_ := A0_ (show Kd.R k74 74 _ w0.heap.size (fun _ => True) (.slice Ay1 layout.length cy1) layout from by have q := Kd.R_take (m := layout.length) HY.out (by have := HYN.out; omega); rw [HYE.out, List.take_left] at q; exact q)
          clear HY; (have HY := HT_); clear HT_; (generalize (w12.setCell ⟨g, 5, none⟩ (.slice Ay1 layout.length cy1)) = w13 at HG HU HL HY HV HB ⊢); (have hel2 : U2.length = used.length := by rw [HUE.out, List.length_set]); (rw [hel2] at HG HU); clear hel2; (have HI := A0_ (show IsLay w0 w13 g (.func (.func f) #[] caps) tiles wd h used laid layout s9.steps s9.ended s9.broken from ⟨_, _, _, _, _, _, _, _, HG.out, hg0.out, HC1.out, HU.out, HL.out, HY.out⟩)); (have h8 : w13.cell? ⟨g, 8, none⟩ = some (.bool s9.ended) := (blk_cell HG.out 8).trans rfl); (have h9 : w13.cell? ⟨g, 9, none⟩ = some (.bool s9.broken) := (blk_cell HG.out 9).trans rfl); clear HG HU HL HY; (by_cases he : s9.ended = true)
          ·(rw [he] at h8); (have er : s9 = R := HCS.out.1 (by unfold stopL; rw [he]; rfl)); subst er; clear he; (try go_wp2); (first | go_end0 | ((try simp only [Exit.inBlock, Exit.then]); refine bodyPost_ret (results_none rfl _ _ _) rfl ?_)); (exact ⟨rfl, HI.out, HV.out, HB.out⟩)
          ·(replace he := Bool.eq_false_iff.mpr he); (rw [he] at h8); (by_cases hb : s9.broken = true)
           ·(rw [hb] at h9); (have er : s9 = R := HCS.out.1 (by unfold stopL; rw [he, hb]; rfl)); subst er; clear he hb; (try go_wp2); (first | go_end0 | ((try simp only [Exit.inBlock, Exit.then]); refine bodyPost_ret (results_none rfl _ _ _) rfl ?_)); (exact ⟨rfl, HI.out, HV.out, HB.out⟩)
           ·(replace hb := Bool.eq_false_iff.mpr hb); (rw [hb] at h9); (have HZ := A0_ (HCS.out.2 (by unfold stopL; rw [he, hb]; rfl))); (have HE := A0_ he); (have HBR := A0_ hb); clear he hb; (try go_wp2); (go_roundg k2)
            case measure => omega
            case rel => exact ⟨t + 1, s9, (by first | rfl | rw [hwt]), ⟨by have := PT.out; omega, by have := PT.out; omega, by have := HT.out.2.2; have := ET.out; omega⟩, ⟨HE.out, HBR.out, HSB.out.1, HSB.out.2⟩, ⟨by rw [ET.out]; exact HZ.out⟩, ⟨by rw [← HE.out]; have q := HI.out; rw [HBR.out] at q; exact (by rw [HE.out] at q ⊢; exact q)⟩, ⟨by have q := HV.out; rw [HE.out] at q; exact q⟩, HB⟩
         ·(have FT := A0_ (Bool.eq_false_iff.mpr hf)); (rw [FT.out] at hkf); (have HF := A0_ hkf); clear hf hkf
          refine start_ (n := 30) (S := fun w' => w'.cell? ⟨g, 3, none⟩ = some (.slice (some ⟨gu, 0, none⟩) used.length cu) ∧ w'.cell? ⟨gu, x.toNat, none⟩ = some (.bool false) ∧ w'.cell? ⟨gx, 0, none⟩ = some (.int .i64 (turnT (tileAt tiles x) t).f0) ∧ w'.cell? ⟨gx, 1, none⟩ = some (.int .i64 (turnT (tileAt tiles x) t).f1) ∧ w'.cell? ⟨gx, 2, none⟩ = some (.int .i64 (turnT (tileAt tiles x) t).f2) ∧ w'.cell? ⟨gx, 3, none⟩ = some (.int .i64 (turnT (tileAt tiles x) t).f3) ∧ w'.cell? ⟨g, 4, none⟩ = some (.slice Al laid.length cl) ∧ w'.cell? ⟨g, 1, none⟩ = some (.int .i64 wd) ∧ w'.cell? ⟨g, 2, none⟩ = some (.int .i64 h)) (ds := []) #[ff,ff,ff,ff,ff,ff,ff,ff,ff,ff,ff,ff,ff,ff,ff,ff,ff,ff,ff,ff,ff,ff,ff,ff,ff,ff,ff,ff,ff,ff] (by kernel_rfl) rfl rfl ⟨(blk_cell HG.out 3).trans rfl, (by rw [← HUB.out]; exact (Kd.R_celln false HU.out x PX.out QU.out).1), (blk_cell BX.out 0).trans rfl, (blk_cell BX.out 1).trans rfl, (blk_cell BX.out 2).trans rfl, (blk_cell BX.out 3).trans rfl, (blk_cell HG.out 4).trans rfl, (blk_cell HG.out 1).trans rfl, (blk_cell HG.out 2).trans rfl⟩ (fun hHeld => ?_)
          refine with_tabW impl_from.tab12 impl_from.bits12 (fun HT_ HW_ => ?_)
          (generalize ((((w4.setCell ⟨gx, 0, none⟩ (.int .i64 (turnT (tileAt tiles x) t).f0)).setCell ⟨gx, 1, none⟩ (.int .i64 (turnT (tileAt tiles x) t).f1)).setCell ⟨gx, 2, none⟩ (.int .i64 (turnT (tileAt tiles x) t).f2)).setCell ⟨gx, 3, none⟩ (.int .i64 (turnT (tileAt tiles x) t).f3)).drew = w5 at HG HU HL HY HV HB BX hHeld ⊢)
          refine pure_ (i := 0) (N := some 64) (v := ?_) (a' := ?_) #[tt,ff,ff,ff,ff,ff,ff,ff,ff,ff,ff,ff,ff,ff,ff,ff,ff,ff,ff,ff,ff,ff,ff,ff,ff,ff,ff,ff,ff,ff] rfl rfl (any_of HT_.out (by kernel_rfl)) (fun _ _ _ h => h) (Or.inl ⟨by rfl, ?_⟩) ?_ ?_
          rotate_left
          ·intro w'; go_simp; with_reducible rfl
          rotate_left
          ·(simp only [Act.put, sia_, sz_, ss_, i64_w, i32_w]); rfl
          refine pure_ (i := 1) (N := some 65) (v := ?_) (a' := ?_) #[tt,tt,ff,ff,ff,ff,ff,ff,ff,ff,ff,ff,ff,ff,ff,ff,ff,ff,ff,ff,ff,ff,ff,ff,ff,ff,ff,ff,ff,ff] rfl rfl (any_of HT_.out (by kernel_rfl)) (fun _ _ _ h => h) (Or.inl ⟨by rfl, ?_⟩) ?_ ?_
          rotate_left
          ·intro w'; go_simp; with_reducible rfl
          rotate_left
          ·(simp only [Act.put, sia_, sz_, ss_, i64_w, i32_w]); rfl
          refine pure_ (i := 2) (N := some 66) (v := ?_) (a' := ?_) #[tt,tt,tt,ff,ff,ff,ff,ff,ff,ff,ff,ff,ff,ff,ff,ff,ff,ff,ff,ff,ff,ff,ff,ff,ff,ff,ff,ff,ff,ff] rfl rfl (any_of HT_.out (by kernel_rfl)) (fun _ _ _ h => h) (Or.inl ⟨by rfl, ?_⟩) ?_ ?_
          rotate_left
          ·intro w'; go_simp; with_reducible rfl
          rotate_left
          ·(simp only [Act.put, sia_, sz_, ss_, i64_w, i32_w]); rfl
          refine take_ (i := 3) (N := some 67) (v := ?_) (a' := ?_) #[tt,tt,tt,tt,ff,ff,ff,ff,ff,ff,ff,ff,ff,ff,ff,ff,ff,ff,ff,ff,ff,ff,ff,ff,ff,ff,ff,ff,ff,ff] rfl rfl (take_ofW HT_.out HW_.out (by kernel_rfl)) (fun _ _ _ h => h) (Or.inl ⟨by rfl, ?_⟩) hHeld ?_ ?_
          rotate_left
          ·(rintro w' ⟨s0, s1, s2, s3, s4, s5, s6, s7, s8⟩); go_simp; with_reducible rfl
          rotate_left
          ·(simp only [Act.put, sia_, sz_, ss_, i64_w, i32_w]); rfl
          refine pure_ (i := 4) (N := some 68) (v := ?_) (a' := ?_) #[tt,tt,tt,tt,tt,ff,ff,ff,ff,ff,ff,ff,ff,ff,ff,ff,ff,ff,ff,ff,ff,ff,ff,ff,ff,ff,ff,ff,ff,ff] rfl rfl (any_of HT_.out (by kernel_rfl)) (fun _ _ _ h => h) (Or.inl ⟨by rfl, ?_⟩) ?_ ?_
          rotate_left
          ·intro w'; go_simp; with_reducible rfl
          rotate_left
          ·(simp only [Act.put, sia_, sz_, ss_, i64_w, i32_w]); rfl
          refine pure_ (i := 5) (N := some 69) (v := ?_) (a' := ?_) #[tt,tt,tt,tt,tt,tt,ff,ff,ff,ff,ff,ff,ff,ff,ff,ff,ff,ff,ff,ff,ff,ff,ff,ff,ff,ff,ff,ff,ff,ff] rfl rfl (any_of HT_.out (by kernel_rfl)) (fun _ _ _ h => h) (Or.inl ⟨by rfl, ?_⟩) ?_ ?_
          rotate_left
          ·intro w'; go_simp; with_reducible rfl
          rotate_left
          ·(simp only [Act.put, sia_, sz_, ss_, i64_w, i32_w]); rfl
          refine take_ (i := 6) (N := some 70) (v := ?_) (a' := ?_) #[tt,tt,tt,tt,tt,tt,tt,ff,ff,ff,ff,ff,ff,ff,ff,ff,ff,ff,ff,ff,ff,ff,ff,ff,ff,ff,ff,ff,ff,ff] rfl rfl (take_ofW HT_.out HW_.out (by kernel_rfl)) (fun _ _ _ h => h) (Or.inl ⟨by rfl, ?_⟩) hHeld ?_ ?_
          rotate_left
          ·(rintro w' ⟨s0, s1, s2, s3, s4, s5, s6, s7, s8⟩); go_simp; with_reducible rfl
          rotate_left
          ·(simp only [Act.put, sia_, sz_, ss_, i64_w, i32_w]); rfl
          refine pure_ (i := 7) (N := some 71) (v := ?_) (a' := ?_) #[tt,tt,tt,tt,tt,tt,tt,tt,ff,ff,ff,ff,ff,ff,ff,ff,ff,ff,ff,ff,ff,ff,ff,ff,ff,ff,ff,ff,ff,ff] rfl rfl (any_of HT_.out (by kernel_rfl)) (fun _ _ _ h => h) (Or.inl ⟨by rfl, ?_⟩) ?_ ?_
          rotate_left
          ·intro w'; go_simp; with_reducible rfl
          rotate_left
          ·(simp only [Act.put, sia_, sz_, ss_, i64_w, i32_w]); rfl
          refine pure_ (i := 8) (N := some 72) (v := ?_) (a' := ?_) #[tt,tt,tt,tt,tt,tt,tt,tt,tt,ff,ff,ff,ff,ff,ff,ff,ff,ff,ff,ff,ff,ff,ff,ff,ff,ff,ff,ff,ff,ff] rfl rfl (any_of HT_.out (by kernel_rfl)) (fun _ _ _ h => h) (Or.inl ⟨by rfl, ?_⟩) ?_ ?_
          rotate_left
          ·intro w'; go_simp; with_reducible rfl
          rotate_left
          ·(simp only [Act.put, sia_, sz_, ss_, i64_w, i32_w]); rfl
          refine pure_ (i := 9) (N := some 73) (v := ?_) (a' := ?_) #[tt,tt,tt,tt,tt,tt,tt,tt,tt,tt,ff,ff,ff,ff,ff,ff,ff,ff,ff,ff,ff,ff,ff,ff,ff,ff,ff,ff,ff,ff] rfl rfl (any_of HT_.out (by kernel_rfl)) (fun _ _ _ h => h) (Or.inl ⟨by rfl, ?_⟩) ?_ ?_
          rotate_left
          ·intro w'; go_simp; with_reducible rfl
          rotate_left
          ·(simp only [Act.put, sia_, sz_, ss_, i64_w, i32_w]); rfl
          refine pure_ (i := 10) (N := some 74) (v := ?_) (a' := ?_) #[tt,tt,tt,tt,tt,tt,tt,tt,tt,tt,tt,ff,ff,ff,ff,ff,ff,ff,ff,ff,ff,ff,ff,ff,ff,ff,ff,ff,ff,ff] rfl rfl (any_of HT_.out (by kernel_rfl)) (fun _ _ _ h => h) (Or.inl ⟨by rfl, ?_⟩) ?_ ?_
          rotate_left
          ·intro w'; go_simp; with_reducible rfl
          rotate_left
          ·(simp only [Act.put, sia_, sz_, ss_, i64_w, i32_w]); rfl
          refine one_ (i := 11) (N := some 75) #[tt,tt,tt,tt,tt,tt,tt,tt,tt,tt,tt,tt,ff,ff,ff,ff,ff,ff,ff,ff,ff,ff,ff,ff,ff,ff,ff,ff,ff,ff] rfl rfl (one_of HT_.out (by kernel_rfl)) (by decide) (fun K hK => ?_)
          (refine goes_ Try.func83 (by kernel_rfl) rfl #[.pointer (some ⟨g, 0, none⟩), .int .i64 x, .int .i64 t] (by rfl) rfl rfl (by (try simp only [List.map_toArray, List.map_cons, List.map_nil]); first | done | rfl | (simp only [List.length_drop, List.length_take]; rfl)) ?_); (have hq := impl_isRepeated.calls' (show IsLay w0 _ g (.func (.func f) #[] caps) tiles wd h used laid layout s2.steps false false from ⟨_, _, _, _, _, _, _, _, HG.out, hg0.out, HC.out, HU.out, HL.out, HY.out⟩) HB.out x t PX.out QX.out PT.out); (rw [HRP.out] at hq); (refine hq.mono ?_); (rintro e w3 ⟨rfl, hb⟩); (refine ⟨_, rfl, ?_⟩); (have z_HG := A0_ (blk_below HG.out hb)); (have z_HU := A0_ (Kd.R_below HU.out hb)); (have z_HL := A0_ (Kd.R_below HL.out hb)); (have z_HY := A0_ (Kd.R_below HY.out hb)); (have z_HV := A0_ (V.below HV.out hb)); (have z_HB := A0_ (below_step HB.out hb)); (have z_BX := A0_ (blk_below BX.out hb)); clear HG HU HL HY HV HB BX; (have HG := z_HG); (have HU := z_HU); (have HL := z_HL); (have HY := z_HY); (have HV := z_HV); (have HB := z_HB); (have BX := z_BX); clear z_HG z_HU z_HL z_HY z_HV z_HB z_BX
          refine hK.out _ _ ⟨(blk_cell HG.out 3).trans rfl, (by rw [← HUB.out]; exact (Kd.R_celln false HU.out x PX.out QU.out).1), (blk_cell BX.out 0).trans rfl, (blk_cell BX.out 1).trans rfl, (blk_cell BX.out 2).trans rfl, (blk_cell BX.out 3).trans rfl, (blk_cell HG.out 4).trans rfl, (blk_cell HG.out 1).trans rfl, (blk_cell HG.out 2).trans rfl⟩ (fun hHeld => ?_)
          clear hb; clear hK K; (refine norm_ (a' := ?_) ?_ ?_); rotate_left
          ·(show Act.put _ (some 75) _ = _); (simp only [Act.put, sia_, sz_, ss_, i64_w, i32_w]); rfl
          refine pure_ (i := 12) (N := some 76) (v := ?_) (a' := ?_) #[tt,tt,tt,tt,tt,tt,tt,tt,tt,tt,tt,tt,tt,ff,ff,ff,ff,ff,ff,ff,ff,ff,ff,ff,ff,ff,ff,ff,ff,ff] rfl rfl (any_of HT_.out (by kernel_rfl)) (fun _ _ _ h => h) (Or.inl ⟨by rfl, ?_⟩) ?_ ?_
          rotate_left
          ·intro w'; go_simp; with_reducible rfl
          rotate_left
          ·(simp only [Act.put, sia_, sz_, ss_, i64_w, i32_w]); rfl
          refine pure_ (i := 13) (N := some 77) (v := ?_) (a' := ?_) #[tt,tt,tt,tt,tt,tt,tt,tt,tt,tt,tt,tt,tt,tt,ff,ff,ff,ff,ff,ff,ff,ff,ff,ff,ff,ff,ff,ff,ff,ff] rfl rfl (any_of HT_.out (by kernel_rfl)) (fun _ _ _ h => h) (Or.inl ⟨by rfl, ?_⟩) ?_ ?_
          rotate_left
          ·intro w'; go_simp; with_reducible rfl
          rotate_left
          ·(simp only [Act.put, sia_, sz_, ss_, i64_w, i32_w]); rfl
          refine take_ (i := 14) (N := some 78) (v := ?_) (a' := ?_) #[tt,tt,tt,tt,tt,tt,tt,tt,tt,tt,tt,tt,tt,tt,tt,ff,ff,ff,ff,ff,ff,ff,ff,ff,ff,ff,ff,ff,ff,ff] rfl rfl (take_ofW HT_.out HW_.out (by kernel_rfl)) (fun _ _ _ h => h) (Or.inl ⟨by rfl, ?_⟩) hHeld ?_ ?_
          rotate_left
          ·(rintro w' ⟨s0, s1, s2, s3, s4, s5, s6, s7, s8⟩); go_simp; with_reducible rfl
          rotate_left
          ·(simp only [Act.put, sia_, sz_, ss_, i64_w, i32_w]); rfl
          refine pure_ (i := 15) (N := some 79) (v := ?_) (a' := ?_) #[tt,tt,tt,tt,tt,tt,tt,tt,tt,tt,tt,tt,tt,tt,tt,tt,ff,ff,ff,ff,ff,ff,ff,ff,ff,ff,ff,ff,ff,ff] rfl rfl (any_of HT_.out (by kernel_rfl)) (fun _ _ _ h => h) (Or.inl ⟨by rfl, ?_⟩) ?_ ?_
          rotate_left
          ·intro w'; go_simp; with_reducible rfl
          rotate_left
          ·(simp only [Act.put, sia_, sz_, ss_, i64_w, i32_w]); rfl
          refine pure_ (i := 16) (N := some 80) (v := ?_) (a' := ?_) #[tt,tt,tt,tt,tt,tt,tt,tt,tt,tt,tt,tt,tt,tt,tt,tt,tt,ff,ff,ff,ff,ff,ff,ff,ff,ff,ff,ff,ff,ff] rfl rfl (any_of HT_.out (by kernel_rfl)) (fun _ _ _ h => h) (Or.inl ⟨by rfl, ?_⟩) ?_ ?_
          rotate_left
          ·intro w'; go_simp; with_reducible rfl
          rotate_left
          ·(simp only [Act.put, sia_, sz_, ss_, i64_w, i32_w]); rfl
          refine pure_ (i := 17) (N := some 81) (v := ?_) (a' := ?_) #[tt,tt,tt,tt,tt,tt,tt,tt,tt,tt,tt,tt,tt,tt,tt,tt,tt,tt,ff,ff,ff,ff,ff,ff,ff,ff,ff,ff,ff,ff] rfl rfl (any_of HT_.out (by kernel_rfl)) (fun _ _ _ h => h) (Or.inl ⟨by rfl, ?_⟩) ?_ ?_
          rotate_left
          ·intro w'; go_simp; with_reducible rfl
          rotate_left
          ·(simp only [Act.put, sia_, sz_, ss_, i64_w, i32_w]); rfl
          refine take_ (i := 18) (N := some 82) (v := ?_) (a' := ?_) #[tt,tt,tt,tt,tt,tt,tt,tt,tt,tt,tt,tt,tt,tt,tt,tt,tt,tt,tt,ff,ff,ff,ff,ff,ff,ff,ff,ff,ff,ff] rfl rfl (take_ofW HT_.out HW_.out (by kernel_rfl)) (fun _ _ _ h => h) (Or.inl ⟨by rfl, ?_⟩) hHeld ?_ ?_
          rotate_left
          ·(rintro w' ⟨s0, s1, s2, s3, s4, s5, s6, s7, s8⟩); go_simp; with_reducible rfl
          rotate_left
          ·(simp only [Act.put, sia_, sz_, ss_, i64_w, i32_w]); rfl
          refine pure_ (i := 19) (N := some 83) (v := ?_) (a' := ?_) #[tt,tt,tt,tt,tt,tt,tt,tt,tt,tt,tt,tt,tt,tt,tt,tt,tt,tt,tt,tt,ff,ff,ff,ff,ff,ff,ff,ff,ff,ff] rfl rfl (any_of HT_.out (by kernel_rfl)) (fun _ _ _ h => h) (Or.inl ⟨by rfl, ?_⟩) ?_ ?_
          rotate_left
          ·intro w'; go_simp; with_reducible rfl
          rotate_left
          ·(simp only [Act.put, sia_, sz_, ss_, i64_w, i32_w]); rfl
          refine pure_ (i := 20) (N := some 84) (v := ?_) (a' := ?_) #[tt,tt,tt,tt,tt,tt,tt,tt,tt,tt,tt,tt,tt,tt,tt,tt,tt,tt,tt,tt,tt,ff,ff,ff,ff,ff,ff,ff,ff,ff] rfl rfl (any_of HT_.out (by kernel_rfl)) (fun _ _ _ h => h) (Or.inl ⟨by rfl, ?_⟩) ?_ ?_
          rotate_left
          ·intro w'; go_simp; with_reducible rfl
          rotate_left
          ·(simp only [Act.put, sia_, sz_, ss_, i64_w, i32_w]); rfl
          refine pure_ (i := 21) (N := some 85) (v := ?_) (a' := ?_) #[tt,tt,tt,tt,tt,tt,tt,tt,tt,tt,tt,tt,tt,tt,tt,tt,tt,tt,tt,tt,tt,tt,ff,ff,ff,ff,ff,ff,ff,ff] rfl rfl (any_of HT_.out (by kernel_rfl)) (fun _ _ _ h => h) (Or.inl ⟨by rfl, ?_⟩) ?_ ?_
          rotate_left
          ·intro w'; go_simp; with_reducible rfl
          rotate_left
          ·(simp only [Act.put, sia_, sz_, ss_, i64_w, i32_w]); rfl
          refine take_ (i := 22) (N := some 86) (v := ?_) (a' := ?_) #[tt,tt,tt,tt,tt,tt,tt,tt,tt,tt,tt,tt,tt,tt,tt,tt,tt,tt,tt,tt,tt,tt,tt,ff,ff,ff,ff,ff,ff,ff] rfl rfl (take_ofW HT_.out HW_.out (by kernel_rfl)) (fun _ _ _ h => h) (Or.inl ⟨by rfl, ?_⟩) hHeld ?_ ?_
          rotate_left
          ·(rintro w' ⟨s0, s1, s2, s3, s4, s5, s6, s7, s8⟩); go_simp; with_reducible rfl
          rotate_left
          ·(simp only [Act.put, sia_, sz_, ss_, i64_w, i32_w]); rfl
          refine pure_ (i := 23) (N := some 87) (v := ?_) (a' := ?_) #[tt,tt,tt,tt,tt,tt,tt,tt,tt,tt,tt,tt,tt,tt,tt,tt,tt,tt,tt,tt,tt,tt,tt,tt,ff,ff,ff,ff,ff,ff] rfl rfl (any_of HT_.out (by kernel_rfl)) (fun _ _ _ h => h) (Or.inl ⟨by rfl, ?_⟩) ?_ ?_
          rotate_left
          ·intro w'; go_simp; with_reducible rfl
          rotate_left
          ·(simp only [Act.put, sia_, sz_, ss_, i64_w, i32_w]); rfl
          refine pure_ (i := 24) (N := some 88) (v := ?_) (a' := ?_) #[tt,tt,tt,tt,tt,tt,tt,tt,tt,tt,tt,tt,tt,tt,tt,tt,tt,tt,tt,tt,tt,tt,tt,tt,tt,ff,ff,ff,ff,ff] rfl rfl (any_of HT_.out (by kernel_rfl)) (fun _ _ _ h => h) (Or.inl ⟨by rfl, ?_⟩) ?_ ?_
          rotate_left
          ·intro w'; go_simp; with_reducible rfl
          rotate_left
          ·(simp only [Act.put, sia_, sz_, ss_, i64_w, i32_w]); rfl
          refine pure_ (i := 25) (N := some 89) (v := ?_) (a' := ?_) #[tt,tt,tt,tt,tt,tt,tt,tt,tt,tt,tt,tt,tt,tt,tt,tt,tt,tt,tt,tt,tt,tt,tt,tt,tt,tt,ff,ff,ff,ff] rfl rfl (any_of HT_.out (by kernel_rfl)) (fun _ _ _ h => h) (Or.inl ⟨by rfl, ?_⟩) ?_ ?_
          rotate_left
          ·intro w'; go_simp; with_reducible rfl
          rotate_left
          ·(simp only [Act.put, sia_, sz_, ss_, i64_w, i32_w]); rfl
          refine take_ (i := 26) (N := some 90) (v := ?_) (a' := ?_) #[tt,tt,tt,tt,tt,tt,tt,tt,tt,tt,tt,tt,tt,tt,tt,tt,tt,tt,tt,tt,tt,tt,tt,tt,tt,tt,tt,ff,ff,ff] rfl rfl (take_ofW HT_.out HW_.out (by kernel_rfl)) (fun _ _ _ h => h) (Or.inl ⟨by rfl, ?_⟩) hHeld ?_ ?_
          rotate_left
          ·(rintro w' ⟨s0, s1, s2, s3, s4, s5, s6, s7, s8⟩); go_simp; with_reducible rfl
          rotate_left
          ·(simp only [Act.put, sia_, sz_, ss_, i64_w, i32_w]); rfl
          refine one_ (i := 27) (N := some 91) #[tt,tt,tt,tt,tt,tt,tt,tt,tt,tt,tt,tt,tt,tt,tt,tt,tt,tt,tt,tt,tt,tt,tt,tt,tt,tt,tt,tt,ff,ff] rfl rfl (one_of HT_.out (by kernel_rfl)) (by decide) (fun K hK => ?_)
          (refine goes_ Try.func77 (by kernel_rfl) rfl #[.agg #[.int .i64 (turnT (tileAt tiles x) t).f0, .int .i64 (turnT (tileAt tiles x) t).f1, .int .i64 (turnT (tileAt tiles x) t).f2, .int .i64 (turnT (tileAt tiles x) t).f3], .slice Al laid.length cl, .int .i64 wd, .int .i64 h] (by rfl) rfl rfl (by (try simp only [List.map_toArray, List.map_cons, List.map_nil]); first | done | rfl | (simp only [List.length_drop, List.length_take]; rfl)) ?_); (refine (impl_fits.calls kf _ _ _ _ Al cl laid wd h _ _ (Kd.R_reads' HL.out).2.2 (Kd.R_reads' HL.out).2.1 HF.out).mono ?_); (rintro e w4 ⟨rfl, hb⟩); (refine ⟨_, rfl, ?_⟩); (have z_HG := A0_ (blk_below HG.out hb)); (have z_HU := A0_ (Kd.R_below HU.out hb)); (have z_HL := A0_ (Kd.R_below HL.out hb)); (have z_HY := A0_ (Kd.R_below HY.out hb)); (have z_HV := A0_ (V.below HV.out hb)); (have z_HB := A0_ (below_step HB.out hb)); (have z_BX := A0_ (blk_below BX.out hb)); clear HG HU HL HY HV HB BX; (have HG := z_HG); (have HU := z_HU); (have HL := z_HL); (have HY := z_HY); (have HV := z_HV); (have HB := z_HB); (have BX := z_BX); clear z_HG z_HU z_HL z_HY z_HV z_HB z_BX
          refine hK.out _ _ ⟨(blk_cell HG.out 3).trans rfl, (by rw [← HUB.out]; exact (Kd.R_celln false HU.out x PX.out QU.out).1), (blk_cell BX.out 0).trans rfl, (blk_cell BX.out 1).trans rfl, (blk_cell BX.out 2).trans rfl, (blk_cell BX.out 3).trans rfl, (blk_cell HG.out 4).trans rfl, (blk_cell HG.out 1).trans rfl, (blk_cell HG.out 2).trans rfl⟩ (fun hHeld => ?_)
          clear hb; clear hK K; (refine norm_ (a' := ?_) ?_ ?_); rotate_left
          ·(show Act.put _ (some 91) _ = _); (simp only [Act.put, sia_, sz_, ss_, i64_w, i32_w]); rfl
          refine pure_ (i := 28) (N := some 92) (v := ?_) (a' := ?_) #[tt,tt,tt,tt,tt,tt,tt,tt,tt,tt,tt,tt,tt,tt,tt,tt,tt,tt,tt,tt,tt,tt,tt,tt,tt,tt,tt,tt,tt,ff] rfl rfl (any_of HT_.out (by kernel_rfl)) (fun _ _ _ h => h) (Or.inl ⟨by rfl, ?_⟩) ?_ ?_
          rotate_left
          ·intro w'; go_simp; with_reducible rfl
          rotate_left
          ·(simp only [Act.put, sia_, sz_, ss_, i64_w, i32_w]); rfl
          refine pure_ (i := 29) (N := some 93) (v := ?_) (a' := ?_) #[tt,tt,tt,tt,tt,tt,tt,tt,tt,tt,tt,tt,tt,tt,tt,tt,tt,tt,tt,tt,tt,tt,tt,tt,tt,tt,tt,tt,tt,tt] rfl rfl (any_of HT_.out (by kernel_rfl)) (fun _ _ _ h => h) (Or.inl ⟨by rfl, ?_⟩) ?_ ?_
          rotate_left
          ·intro w'; go_simp; with_reducible rfl
          rotate_left
          ·(simp only [Act.put, sia_, sz_, ss_, i64_w, i32_w]); rfl
          (refine done_ (done_of HT_.out (by kernel_rfl)) ?_); (try go_wp2); (go_roundg k2)
          case measure => omega
          case rel => exact ⟨t + 1, s2, (by first | rfl | rw [hwt]), ⟨by have := PT.out; omega, by have := PT.out; omega, by have := HT.out.2.2; have := ET.out; omega⟩, HS2, ⟨by rw [ET.out]; exact cont_skip HT4.out HR2.out (by unfold skipL; rw [← hrd, HUB.out, HRP.out, EX.out, ETT.out, FT.out]; rfl)⟩, ⟨⟨_, _, _, _, _, _, _, _, HG.out, hg0.out, HC.out, HU.out, HL.out, HY.out⟩⟩, HV, HB⟩
      ·(have c4b : decide (t < 4) = false := decide_eq_false c4); (have et : t = 4 := by have := HT.out.2.1; omega); subst et
       have HR3 := A0_ (show outerL tiles wd h (fromL step tiles wd h d) used laid layout (tiles.length - (x.toNat + 1)) s2 = R from by
        (have := HR2.out); (have hz : innerL tiles wd h (fromL step tiles wd h d) used laid layout x.toNat (4 - (4 : Int).toNat) s2 = s2 := rfl); (rw [hz, contL, if_neg (by unfold stopL; rw [HS2.out.1, HS2.out.2.1]; decide)] at this); (exact this))
       (have hwx : wrap64 (x + 1) = x + 1 := by have := HN.out; have := PX.out; unfold wrap64; omega); go_wp2; (go_roundg k1)
       case measure => omega
       case rel => exact ⟨x + 1, s2, rfl, ⟨by have := PX.out; omega, by omega, by have := HX.out.2.2; have := PX.out; omega⟩, HS2, ⟨by rw [show (x + 1).toNat = x.toNat + 1 from by have := PX.out; omega]; exact HR3.out⟩, HI, HV, HB⟩
    ·(have cb : decide (x < (tiles.length : Int)) = false := decide_eq_false c); (have ex : x = (tiles.length : Int) := by have := HX.out.2.1; omega)
     have er : s1 = R := by
      (have := HR.out); (rw [ex] at this); (have hz : tiles.length - ((tiles.length : Int)).toNat = 0 := by omega); (rw [hz] at this); (exact this)
     subst er; go_wp2; (first | go_end0 | ((try simp only [Exit.inBlock, Exit.then]); refine bodyPost_ret (results_none rfl _ _ _) rfl ?_)); (exact ⟨rfl, by rw [HS1.out.1, HS1.out.2.1]; exact HI.out, by rw [HS1.out.1]; exact HV.out, HB.out⟩)
end Go.Proofs.Ytgcagmmghckbbaa.A

/- The program's search from its beginning, and the functions that it visits. -/
namespace Go.Proofs.Ytgcagmmghckbbaa.A
open Go.RowKit Go.Proofs.YtgcagmmghckbbaaW.PrintWords Go.Proofs.YtgcagmmghckbbaaW.PrintLast Go.Proofs.YtgcagmmghckbbaaW.PrintMore
set_option linter.unusedVariables false
set_option linter.unusedSimpArgs false
def runL {α : Type} (step : α → List St → α × Bool) (tiles : List Tl) (wd h : Int) (a : α) : LS α := fromL step tiles wd h tiles.length (List.replicate tiles.length false) [] [] ⟨0, false, false, a⟩
set_option maxHeartbeats 1000000 in
set_option maxRecDepth 100000 in
theorem impl_lay.bad (k : Nat) (A0 : Option Addr) (c0 : Nat) (tiles : List Tl) (wd h : Int) (vf : Value) (t : Int) (w : World) (hr0 : Kd.C k24 w A0 tiles.length tiles) (hc0 : tiles.length ≤ c0) (hk : impl_jigsawCode.f k tiles wd h = some t) (ht : t ≠ 0) :
    Calls Try.prog 67 #[.slice A0 tiles.length c0, .int .i64 wd, .int .i64 h, vf] w fun e w' => e = .returned (.tuple #[.pointer none, .int .i64 t]) ∧ Below w.heap.size w w' := by
  have HR0 := Aside0.mk hr0
  have HC0 := Aside0.mk hc0
  have HK := Aside0.mk hk
  clear hr0 hc0 hk
  have d : (t != 0) = true := by simp [ht]
  go_enter Try.func67, Try.ntmps67
  go_wp2_with (first
    | (go_at_call 63; refine (impl_jigsawCode.calls k A0 c0 tiles wd h t w HR0.out HC0.out HK.out).mono ?_; rintro e w1 ⟨rfl, hb⟩; have HB := Aside0.mk hb; clear hb))
  go_ret2
  exact ⟨rfl, HB.out⟩
set_option maxHeartbeats 2000000 in
set_option maxRecDepth 100000 in
theorem impl_lay.good {α : Type} (Vis : α → Bool → World → Prop) (step : α → List St → α × Bool) (k : Nat) (A0 : Option Addr) (c0 : Nat) (tiles : List Tl) (wd h : Int) (vf : Value) (w0 w : World) (a : α) (hr0 : Kd.C k24 w0 A0 tiles.length tiles) (hc0 : tiles.length ≤ c0) (hB0 : Below w0.heap.size w0 w) (hk : impl_jigsawCode.f k tiles wd h = some 0) (hc : codeV tiles wd h = 0)
    (V : VisOk Vis w0 vf step) (hV : Vis a false w) :
    Calls Try.prog 67 #[.slice A0 tiles.length c0, .int .i64 wd, .int .i64 h, vf] w fun e w' => ∃ g : Nat, e = .returned (.tuple #[.pointer (some ⟨g, 0, none⟩), .int .i64 (if (runL step tiles wd h a).broken = true then 3 else 0)]) ∧
      IsLay w0 w' g vf tiles wd h (List.replicate tiles.length false) [] [] (runL step tiles wd h a).steps (runL step tiles wd h a).ended (runL step tiles wd h a).broken ∧ Vis (runL step tiles wd h a).a (runL step tiles wd h a).ended w' ∧ Below w0.heap.size w0 w' := by
  have hu92 := Try.underlying92
  obtain ⟨_, _, _, _, _, _, hn12⟩ := codeV_zero hc
  obtain ⟨f, fn, caps, rfl, _⟩ := V.call
  have HR0 := Aside0.mk hr0
  have HC0 := Aside0.mk hc0
  have HK := Aside0.mk hk
  have HB := Aside0.mk hB0
  have HV := Aside0.mk hV
  have HN := Aside0.mk hn12
  have hn0 : decide ((0 : Int) ≤ (tiles.length : Int)) = true := decide_eq_true (by omega)
  have HN0 := Aside0.mk (show (0 : Int) ≤ (tiles.length : Int) by omega)
  have HNB := Aside0.mk (show (tiles.length : Int).toNat * 1 ≤ 281474976710656 by omega)
  clear hr0 hc0 hk hB0 hV hn12
  obtain ⟨R, hR⟩ : ∃ R, R = runL step tiles wd h a := ⟨_, rfl⟩
  rw [← hR]
  obtain ⟨U0, hU0⟩ : ∃ U, U = List.replicate tiles.length false := ⟨_, rfl⟩
  rw [← hU0]
  have HR := Aside0.mk (show R = fromL step tiles wd h tiles.length U0 [] [] ⟨0, false, false, a⟩ from by rw [hR, hU0]; rfl)
  have HU0 := Aside0.mk hU0
  have HUN := Aside0.mk (show U0.length = tiles.length from by rw [hU0]; simp)
  clear hR hU0
  rcases Bool.eq_false_or_eq_true R.broken with b | b
  · rw [if_pos b]
    have B := Aside0.mk b
    clear b
    go_enter Try.func67, Try.ntmps67
    go_wp2_with (first
      | (go_at_call 63; refine (impl_jigsawCode.calls k A0 c0 tiles wd h 0 w (Kd.C_below HR0.out HB.out) HC0.out HK.out).mono ?_; rintro e w1 ⟨rfl, hb⟩; have HB1 := Aside0.mk (below_step HB.out hb); have HV1 := Aside0.mk (V.below HV.out hb); clear HB HV hb)
      | ((with_reducible refine gate_dst (N := 24) rfl ?_); refine Kd.R_make Kd.bool _ 4 rfl (N := 24) rfl 90 _ _ rfl (tiles.length : Int) rfl rfl Try.underlying90 (.bool false) 1 info4 rfl (by decide) (by omega) false (ok := fun _ => True) (okp := fun _ => True) rfl (fun _ hk => hk) trivial HN0.out HNB.out (Below.refl _ _) (Nat.le_refl _) ?_; intro v2 w2 ho hb hg_ hnew_; clear hg_ hnew_; simp only [Int.toNat_natCast] at ho; rw [← HU0.out] at ho; obtain ⟨Au, cu, rfl⟩ := Kd.R_slice ho; have HU := Aside0.mk (Kd.R_lower ho HB1.out.size); have HB2 := Aside0.mk (below_step HB1.out hb); have HV2 := Aside0.mk (V.below HV1.out hb); clear HB1 HV1 ho hb;
         have HAL := Aside0.mk (below_alloc (Below.refl w2.heap.size w2) (.cells #[.slice A0 tiles.length c0, .int .i64 wd, .int .i64 h, .slice Au U0.length cu, .slice none 0 0, .slice none 0 0, .int .i64 0, .func (.func f) #[] caps, .bool false, .bool false] 92));
         have HCALL := Aside0.mk (impl_from.calls' Vis step (.func (.func f) #[] caps) tiles wd h hc w0 V w2.heap.size tiles.length U0 [] [] ⟨0, false, false, a⟩ _ (by simp) HUN.out rfl rfl ⟨Int.le_refl 0, (by decide : (0 : Int) ≤ 5000)⟩ rfl rfl (below_step HB2.out HAL.out) ⟨A0, c0, Au, cu, none, 0, none, 0, by simpa using heap_alloc_new w2 _, HB2.out.size, HR0.out, Kd.R_below HU.out HAL.out, Kd.R_nil _ _ _ _ _, Kd.R_nil _ _ _ _ _⟩ (V.below HV2.out HAL.out)))
      | (go_at_call 79; refine HCALL.out.mono ?_; rintro e w3 ⟨rfl, hi, hv, hb⟩; rw [← HR.out] at hi hv; have HI := Aside0.mk hi; have HV3 := Aside0.mk hv; have HB3 := Aside0.mk hb; obtain ⟨A1, c1, Au1, cu1, Al1, cl1, Ay1, cy1, hG, _, _, _, _, _⟩ := hi; have h9 : w3.cell? ⟨w2.heap.size, 9, none⟩ = some (.bool R.broken) := (blk_cell hG 9).trans rfl; rw [B.out] at h9; clear hG hv hb HCALL))
    go_ret2
    exact ⟨w2.heap.size, rfl, by first | exact HI.out | (have q := HI.out; rw [B.out] at q; exact q), HV3.out, HB3.out⟩
  · rw [if_neg (by rw [b]; decide)]
    have B := Aside0.mk b
    clear b
    go_enter Try.func67, Try.ntmps67
    go_wp2_with (first
      | (go_at_call 63; refine (impl_jigsawCode.calls k A0 c0 tiles wd h 0 w (Kd.C_below HR0.out HB.out) HC0.out HK.out).mono ?_; rintro e w1 ⟨rfl, hb⟩; have HB1 := Aside0.mk (below_step HB.out hb); have HV1 := Aside0.mk (V.below HV.out hb); clear HB HV hb)
      | ((with_reducible refine gate_dst (N := 24) rfl ?_); refine Kd.R_make Kd.bool _ 4 rfl (N := 24) rfl 90 _ _ rfl (tiles.length : Int) rfl rfl Try.underlying90 (.bool false) 1 info4 rfl (by decide) (by omega) false (ok := fun _ => True) (okp := fun _ => True) rfl (fun _ hk => hk) trivial HN0.out HNB.out (Below.refl _ _) (Nat.le_refl _) ?_; intro v2 w2 ho hb hg_ hnew_; clear hg_ hnew_; simp only [Int.toNat_natCast] at ho; rw [← HU0.out] at ho; obtain ⟨Au, cu, rfl⟩ := Kd.R_slice ho; have HU := Aside0.mk (Kd.R_lower ho HB1.out.size); have HB2 := Aside0.mk (below_step HB1.out hb); have HV2 := Aside0.mk (V.below HV1.out hb); clear HB1 HV1 ho hb;
         have HAL := Aside0.mk (below_alloc (Below.refl w2.heap.size w2) (.cells #[.slice A0 tiles.length c0, .int .i64 wd, .int .i64 h, .slice Au U0.length cu, .slice none 0 0, .slice none 0 0, .int .i64 0, .func (.func f) #[] caps, .bool false, .bool false] 92));
         have HCALL := Aside0.mk (impl_from.calls' Vis step (.func (.func f) #[] caps) tiles wd h hc w0 V w2.heap.size tiles.length U0 [] [] ⟨0, false, false, a⟩ _ (by simp) HUN.out rfl rfl ⟨Int.le_refl 0, (by decide : (0 : Int) ≤ 5000)⟩ rfl rfl (below_step HB2.out HAL.out) ⟨A0, c0, Au, cu, none, 0, none, 0, by simpa using heap_alloc_new w2 _, HB2.out.size, HR0.out, Kd.R_below HU.out HAL.out, Kd.R_nil _ _ _ _ _, Kd.R_nil _ _ _ _ _⟩ (V.below HV2.out HAL.out)))
      | (go_at_call 79; refine HCALL.out.mono ?_; rintro e w3 ⟨rfl, hi, hv, hb⟩; rw [← HR.out] at hi hv; have HI := Aside0.mk hi; have HV3 := Aside0.mk hv; have HB3 := Aside0.mk hb; obtain ⟨A1, c1, Au1, cu1, Al1, cl1, Ay1, cy1, hG, _, _, _, _, _⟩ := hi; have h9 : w3.cell? ⟨w2.heap.size, 9, none⟩ = some (.bool R.broken) := (blk_cell hG 9).trans rfl; rw [B.out] at h9; clear hG hv hb HCALL))
    go_ret2
    exact ⟨w2.heap.size, rfl, by first | exact HI.out | (have q := HI.out; rw [B.out] at q; exact q), HV3.out, HB3.out⟩
end Go.Proofs.Ytgcagmmghckbbaa.A

/- The functions that the program's search visits: one counts, one keeps the layout. -/
namespace Go.Proofs.Ytgcagmmghckbbaa.A
open Go.RowKit Go.Proofs.YtgcagmmghckbbaaW.PrintWords Go.Proofs.YtgcagmmghckbbaaW.PrintLast Go.Proofs.YtgcagmmghckbbaaW.PrintMore
set_option linter.unusedVariables false
set_option linter.unusedSimpArgs false
def stepC (n : Int) (_ : List St) : Int × Bool := (wrap64 (n + 1), true)
def VisC (w0 : World) (gn : Nat) (n : Int) (_ : Bool) (W : World) : Prop := W.heap[gn]? = some (.cells #[.int .i64 n] 2 (0, 0)) ∧ w0.heap.size ≤ gn
theorem blk_types {W : World} {a b : Nat} {cs ds : Array Value} {t u : Nat} (h1 : W.heap[a]? = some (.cells cs t (0, 0))) (h2 : W.heap[b]? = some (.cells ds u (0, 0))) (h : t ≠ u) : a ≠ b := by
  rintro rfl
  rw [h1] at h2
  injection h2 with h2
  injection h2 with _ h2 _
  exact h h2
set_option maxHeartbeats 1000000 in
set_option maxRecDepth 100000 in
theorem visC_call (w0 : World) (gn : Nat) (n : Int) (s : Value) (W : World) (h : VisC w0 gn n false W) (hB : Below w0.heap.size w0 W) :
    Calls Try.prog 68 (#[s] ++ #[.pointer (some ⟨gn, 0, none⟩)]) W fun e w' => e = .returned (.bool true) ∧ VisC w0 gn (wrap64 (n + 1)) false w' ∧ Below w0.heap.size w0 w' ∧ ∃ g, KeepBut W w' g none ∧ ∃ cs t, W.heap[g]? = some (.cells cs t (0, 0)) ∧ (t = 2 ∨ t = 51) := by
  have hc := (blk_cell h.1 0).trans rfl
  have hf := blk_frozen h.1 0
  have H := Aside0.mk h
  have HB := Aside0.mk hB
  clear h hB
  show Calls Try.prog 68 #[s, .pointer (some ⟨gn, 0, none⟩)] W _
  go_enter Try.func68, Try.ntmps68
  go_wp2
  go_ret
  refine ⟨rfl, ⟨blk_put (cs' := #[.int .i64 (wrap64 (n + 1))]) H.out.1 0 _ rfl, H.out.2⟩, below_set HB.out H.out.2, gn, KeepBut.set_ (KeepBut.refl _ _ _) 0 _, _, _, H.out.1, .inl rfl⟩
theorem visC_ok (w0 : World) (gn : Nat) : VisOk (VisC w0 gn) w0 (.func (.func 68) #[] #[.pointer (some ⟨gn, 0, none⟩)]) stepC where
  below := fun h hb => ⟨blk_below h.1 hb, h.2⟩
  set := fun u h hp ht => ⟨blk_far h.1 (blk_types h.1 hp (by rcases ht with rfl | rfl | rfl <;> decide)) u, h.2⟩
  grown := fun h hg hr => ⟨blk_grown h.1 hg (fun he => by
    obtain ⟨cs, t, hc, ht⟩ := hr _ he.symm
    exact blk_types h.1 hc (by rcases ht with rfl | rfl <;> decide) rfl), h.2⟩
  call := ⟨68, Try.f68, _, rfl, Try.func68, by kernel_rfl, rfl, fun a layout A c W h hB hR hl => visC_call w0 gn a _ W h hB⟩
theorem eql_nil51 (w : World) (a : Option Addr) (l c : Nat) : (binOp .eql 51 (.slice a l c) (.slice none 0 0)).run Try.prog w = .ok (.bool a.isNone) w := by
  simp [binOp, run_equal_slice_nil w 51 74 a l c Try.underlying51]
attribute [local go_sem high] eql_nil51
theorem R_none {W : World} {base c n : Nat} {ok : Nat → Prop} {l : List St} (h : Kd.R k74 74 W base ok (.slice none n c) l) : l = [] := by
  obtain ⟨hn, _, hC⟩ := Kd.R_reads' h
  cases l with
  | nil => rfl
  | cons x xs =>
    obtain ⟨ad, _, hA, _⟩ := Kd.C_get hC x 0 (by omega) (by simp)
    cases hA
set_option maxHeartbeats 1000000 in
set_option maxRecDepth 100000 in
theorem clone_calls (A : Option Addr) (c : Nat) (l : List St) (W : World) (base : Nat) (hR : Kd.R k74 74 W base (fun _ => True) (.slice A l.length c) l) (hl : l.length ≤ 12) :
    Calls Try.prog 70 #[.slice A l.length c] W fun e w' => ∃ v, e = .returned v ∧ Kd.R k74 74 w' W.heap.size (fun _ => True) v l ∧ Below W.heap.size W w' := by
  have HR := Aside0.mk hR
  have HL := Aside0.mk hl
  cases A with
  | none =>
    have e := R_none hR
    subst e
    clear hR hl
    go_enter Try.func70, Try.ntmps70
    go_wp2
    go_ret
    exact ⟨_, rfl, Kd.R_nil _ _ _ _ _, Below.refl _ _⟩
  | some ad =>
    clear hR hl
    go_enter Try.func70, Try.ntmps70
    go_wp2_with (first
      | ((with_reducible refine gate_dst (N := 5) rfl ?_); refine Kd.R_lit k74 _ 74 ?hg (N := 5) ?hd (xs := ([] : List St)) (inner := []) (ok := fun _ => True) (okp := fun _ => True) ?hr ?hp (fun _ hk => hk) trivial (Below.refl _ _) (Nat.le_refl _) (by simp) ?_; (case hd => rfl); (case hg => rfl); (case hr => first | (go_simp; done) | (go_simp; rfl)); (case hp => exact (Reps.none _ _)); intro v1 w1 ho hb hg_ hnew_; clear hg_ hnew_; have HO := Aside0.mk ho; have HB := Aside0.mk hb; clear ho hb)
      | ((with_reducible refine gate_builtin (b := .append) (xs := #[.tmp 5, .tmp 6]) rfl ?_); at_builtin; refine Kd.R_append_rows k74 W.heap.size rfl (.tmp 5) (.tmp 6) 51 74 (.agg #[(.int .i64 0), (.int .i64 0)]) 16 rfl Try.underlying51 info74 rfl (by decide) (by omega) v1 ([] : List St) l _ _ _ (fun _ => True) (fun _ => False) rfl rfl ?aO ?aR (fun _ _ h => h) (fun _ h => h.elim) ?aF (Below.refl _ _) ?aS ?aL ?_; (case aR => exact (Kd.R_reads' (Kd.R_below HR.out HB.out)).2.2); (case aF => exact (fun _ _ => trivial)); (case aO => exact HO.out); (case aS => exact HB.out.size); (case aL => have := HL.out; simp only [List.length_nil]; omega); intro v2 w2 ho hb hg hat; have HO2 := Aside0.mk ho; have HB2 := Aside0.mk (below_weaken HB.out (Nat.le_refl _) hb); clear ho hb hg hat))
    go_ret
    exact ⟨_, rfl, HO2.out, HB2.out⟩
def stepS (_ : Option (List St)) (l : List St) : Option (List St) × Bool := (some l, false)
def VisS (w0 : World) (gn : Nat) (a : Option (List St)) (b : Bool) (W : World) : Prop := w0.heap.size ≤ gn ∧
  match a with
  | none => W.heap[gn]? = some (.cells #[.slice none 0 0] 51 (0, 0))
  | some l => b = true ∧ ∃ A c, W.heap[gn]? = some (.cells #[.slice A l.length c] 51 (0, 0)) ∧ Kd.R k74 74 W w0.heap.size (fun _ => True) (.slice A l.length c) l
set_option maxHeartbeats 1000000 in
set_option maxRecDepth 100000 in
theorem visS_call (w0 : World) (gn : Nat) (a : Option (List St)) (l : List St) (A : Option Addr) (c : Nat) (W : World) (h : VisS w0 gn a false W) (hB : Below w0.heap.size w0 W) (hR : Kd.R k74 74 W w0.heap.size (fun _ => True) (.slice A l.length c) l) (hl : l.length ≤ 12) :
    Calls Try.prog 69 (#[.slice A l.length c] ++ #[.pointer (some ⟨gn, 0, none⟩)]) W fun e w' => e = .returned (.bool false) ∧ VisS w0 gn (some l) true w' ∧ Below w0.heap.size w0 w' ∧ ∃ g, KeepBut W w' g none ∧ ∃ cs t, W.heap[g]? = some (.cells cs t (0, 0)) ∧ (t = 2 ∨ t = 51) := by
  cases a with
  | some l' => exact absurd h.2.1 (by decide)
  | none =>
    have H := Aside0.mk h
    have HB := Aside0.mk hB
    have HR := Aside0.mk hR
    have HL := Aside0.mk hl
    have hg : W.heap[gn]? = some (.cells #[.slice none 0 0] 51 (0, 0)) := h.2
    have HG := Aside0.mk hg
    clear h hB hR hl hg
    show Calls Try.prog 69 #[.slice A l.length c, .pointer (some ⟨gn, 0, none⟩)] W _
    go_enter Try.func69, Try.ntmps69
    go_wp2_with (first
      | (go_at_call 70; refine (clone_calls A c l W w0.heap.size HR.out HL.out).mono ?_; rintro e w1 ⟨v, rfl, hr, hb⟩; obtain ⟨A1, c1, rfl⟩ := Kd.R_slice hr; have HR1 := Aside0.mk hr; have HB1 := Aside0.mk hb; have HG1 := Aside0.mk (blk_below HG.out hb); have hz := blk_frozen HG1.out 0; have hy : w1.cell? ⟨gn, 0, none⟩ = some (.slice none 0 0) := (blk_cell HG1.out 0).trans rfl; clear hr hb))
    go_ret
    refine ⟨rfl, ⟨H.out.1, rfl, A1, c1, blk_put (cs' := #[.slice A1 l.length c1]) HG1.out 0 _ rfl, ?_⟩, below_set (below_step HB.out HB1.out) H.out.1, gn, ?_, _, _, HG.out, .inr rfl⟩
    · exact Kd.R_mono (Kd.R_far (p := ⟨gn, 0, none⟩) (Kd.R_types (Kd.R_lower HR1.out HB.out.size) HG1.out (by decide)) (fun k hk => hk.2) _) (fun _ hk => hk.1)
    · exact KeepBut.set_ (KeepBut.of_below HB1.out gn none) 0 _
theorem visS_ok (w0 : World) (gn : Nat) : VisOk (VisS w0 gn) w0 (.func (.func 69) #[] #[.pointer (some ⟨gn, 0, none⟩)]) stepS where
  below := fun {a b W W'} h hb => by
    cases a with
    | none => exact ⟨h.1, blk_below h.2 hb⟩
    | some l =>
      obtain ⟨h1, h2, A, c, h3, h4⟩ := h
      exact ⟨h1, h2, A, c, blk_below h3 hb, Kd.R_below h4 hb⟩
  set := fun {a b W p cs t} u h hp ht => by
    cases a with
    | none => exact ⟨h.1, blk_far h.2 (blk_types h.2 hp (by rcases ht with rfl | rfl | rfl <;> decide)) u⟩
    | some l =>
      obtain ⟨h1, h2, A, c, h3, h4⟩ := h
      refine ⟨h1, h2, A, c, blk_far h3 (blk_types h3 hp (by rcases ht with rfl | rfl | rfl <;> decide)) u, ?_⟩
      exact Kd.R_mono (Kd.R_far (Kd.R_types h4 hp (by rcases ht with rfl | rfl | rfl <;> decide)) (fun k hk => hk.2) u) (fun _ hk => hk.1)
  grown := fun {a W W' row} h hg hr => by
    cases a with
    | none => exact ⟨h.1, blk_grown h.2 hg (fun he => by
        obtain ⟨cs, t, hc, ht⟩ := hr _ he.symm
        exact blk_types h.2 hc (by rcases ht with rfl | rfl <;> decide) rfl)⟩
    | some l => exact absurd h.2.1 (by decide)
  call := ⟨69, Try.f69, _, rfl, Try.func69, by kernel_rfl, rfl, fun a layout A c W h hB hR hl => visS_call w0 gn a layout A c W h hB hR hl⟩
end Go.Proofs.Ytgcagmmghckbbaa.A

/- The program's CountLayouts and SolveJigsaw, walked. -/
namespace Go.Proofs.Ytgcagmmghckbbaa.A
open Go.RowKit Go.Proofs.YtgcagmmghckbbaaW.PrintWords Go.Proofs.YtgcagmmghckbbaaW.PrintLast Go.Proofs.YtgcagmmghckbbaaW.PrintMore
set_option linter.unusedVariables false
set_option linter.unusedSimpArgs false
def outC (t : Int) (R : LS Int) : Int × Int := if t = 0 then (if R.broken = true then (0, 3) else (R.a, 0)) else (0, t)
set_option maxHeartbeats 2000000 in
set_option maxRecDepth 100000 in
theorem impl_CountLayouts.calls' (k : Nat) (A0 : Option Addr) (c0 : Nat) (l0 : List Tl) (a1 a2 : Int) (w : World) (hr0 : Kd.C k24 w A0 l0.length l0) (hc0 : l0.length ≤ c0)
    (h1 : impl_jigsawCode.f k l0 a1 a2 = some (codeV l0 a1 a2)) :
    Calls Try.prog 38 #[.slice A0 l0.length c0, .int .i64 a1, .int .i64 a2] w fun e w' => e = .returned (.tuple #[.int .i64 (outC (codeV l0 a1 a2) (runL stepC l0 a1 a2 0)).1, .int .i64 (outC (codeV l0 a1 a2) (runL stepC l0 a1 a2 0)).2]) ∧ Below w.heap.size w w' := by
  have HR0 := Aside0.mk hr0
  have HC0 := Aside0.mk hc0
  have H1 := Aside0.mk h1
  clear hr0 hc0 h1
  have HB1 := Aside0.mk (below_alloc (Below.refl w.heap.size w) (.cells #[.int .i64 0] 2))
  have hg := heap_alloc_new w (.cells #[.int .i64 0] 2)
  have HG := Aside0.mk hg
  clear hg
  by_cases c : codeV l0 a1 a2 = 0
  · have C := Aside0.mk c
    rw [c]
    obtain ⟨R, hR⟩ : ∃ R, R = runL stepC l0 a1 a2 0 := ⟨_, rfl⟩
    rw [← hR]
    have HL := Aside0.mk (impl_lay.good (VisC w w.heap.size) stepC k A0 c0 l0 a1 a2 (.func (.func 68) #[] #[.pointer (some ⟨w.heap.size, 0, none⟩)]) w _ 0 HR0.out HC0.out HB1.out (by rw [H1.out, c]) c (visC_ok w w.heap.size) ⟨by simpa using HG.out, Nat.le_refl _⟩)
    rw [← hR] at HL
    clear hR c
    by_cases b : R.broken = true
    · rw [if_pos b] at HL
      have e : outC 0 R = (0, 3) := by unfold outC; rw [if_pos rfl, if_pos b]
      rw [e]
      clear e b
      go_enter Try.func38, Try.ntmps38
      go_wp2_with (first
        | (go_at_call 67; refine HL.out.mono ?_; rintro e w2 ⟨g, rfl, hi, hv, hb⟩; have HB2 := Aside0.mk hb; clear hi hv hb))
      go_ret2
      exact ⟨rfl, HB2.out⟩
    · have b := Bool.eq_false_iff.mpr b
      rw [b] at HL
      have e : outC 0 R = (R.a, 0) := by unfold outC; rw [if_pos rfl, if_neg (by rw [b]; decide)]
      rw [e]
      clear e b
      go_enter Try.func38, Try.ntmps38
      go_wp2_with (first
        | (go_at_call 67; refine HL.out.mono ?_; rintro e w2 ⟨g, rfl, hi, hv, hb⟩; have HB2 := Aside0.mk hb; have hy : w2.cell? ⟨w.heap.size, 0, none⟩ = some (.int .i64 R.a) := (blk_cell hv.1 0).trans rfl; clear hi hv hb))
      go_ret2
      exact ⟨rfl, HB2.out⟩
  · have e : outC (codeV l0 a1 a2) (runL stepC l0 a1 a2 0) = (0, codeV l0 a1 a2) := by unfold outC; rw [if_neg c]
    rw [e]
    have d : (codeV l0 a1 a2 != 0) = true := by simp [c]
    have HL := Aside0.mk (impl_lay.bad k A0 c0 l0 a1 a2 (.func (.func 68) #[] #[.pointer (some ⟨w.heap.size, 0, none⟩)]) _ _ (Kd.C_below HR0.out HB1.out) HC0.out H1.out c)
    clear e c
    go_enter Try.func38, Try.ntmps38
    go_wp2_with (first
      | (go_at_call 67; refine HL.out.mono ?_; rintro e w2 ⟨rfl, hb⟩; have HB2 := Aside0.mk hb; clear hb))
    go_ret2
    exact ⟨rfl, below_step HB1.out HB2.out⟩
end Go.Proofs.Ytgcagmmghckbbaa.A

/- The program's SolveJigsaw, walked. -/
namespace Go.Proofs.Ytgcagmmghckbbaa.A
open Go.RowKit Go.Proofs.YtgcagmmghckbbaaW.PrintWords Go.Proofs.YtgcagmmghckbbaaW.PrintLast Go.Proofs.YtgcagmmghckbbaaW.PrintMore
set_option linter.unusedVariables false
set_option linter.unusedSimpArgs false
def outI (t : Int) (R : LS (Option (List St))) : List St × Int := if t = 0 then (if R.broken = true then ([], 3) else if R.ended = true then (R.a.getD [], 0) else ([], 4)) else ([], t)
theorem visS_read {w0 : World} {gn : Nat} {a : Option (List St)} {b : Bool} {W : World} (h : VisS w0 gn a b W) : ∃ v, W.cell? ⟨gn, 0, none⟩ = some v ∧ Kd.R k74 74 W w0.heap.size (fun _ => True) v (a.getD []) := by
  cases a with
  | none => exact ⟨_, (blk_cell h.2 0).trans rfl, Kd.R_nil _ _ _ _ _⟩
  | some l =>
    obtain ⟨_, _, A, c, h3, h4⟩ := h
    exact ⟨_, (blk_cell h3 0).trans rfl, h4⟩
set_option maxHeartbeats 2000000 in
set_option maxRecDepth 100000 in
theorem impl_SolveJigsaw.calls' (k : Nat) (A0 : Option Addr) (c0 : Nat) (l0 : List Tl) (a1 a2 : Int) (w : World) (hr0 : Kd.C k24 w A0 l0.length l0) (hc0 : l0.length ≤ c0)
    (h1 : impl_jigsawCode.f k l0 a1 a2 = some (codeV l0 a1 a2)) :
    Calls Try.prog 44 #[.slice A0 l0.length c0, .int .i64 a1, .int .i64 a2] w fun e w' => ∃ v : Value, e = .returned (.tuple #[v, .int .i64 (outI (codeV l0 a1 a2) (runL stepS l0 a1 a2 none)).2]) ∧ Kd.R k74 74 w' w.heap.size (fun _ => True) v (outI (codeV l0 a1 a2) (runL stepS l0 a1 a2 none)).1 ∧ Below w.heap.size w w' := by
  have HR0 := Aside0.mk hr0
  have HC0 := Aside0.mk hc0
  have H1 := Aside0.mk h1
  clear hr0 hc0 h1
  have HB1 := Aside0.mk (below_alloc (Below.refl w.heap.size w) (.cells #[.slice none 0 0] 51))
  have hg := heap_alloc_new w (.cells #[.slice none 0 0] 51)
  have HG := Aside0.mk hg
  clear hg
  by_cases c : codeV l0 a1 a2 = 0
  · rw [c]
    obtain ⟨R, hR⟩ : ∃ R, R = runL stepS l0 a1 a2 none := ⟨_, rfl⟩
    rw [← hR]
    have HL := Aside0.mk (impl_lay.good (VisS w w.heap.size) stepS k A0 c0 l0 a1 a2 (.func (.func 69) #[] #[.pointer (some ⟨w.heap.size, 0, none⟩)]) w _ none HR0.out HC0.out HB1.out (by rw [H1.out, c]) c (visS_ok w w.heap.size) ⟨Nat.le_refl _, by simpa using HG.out⟩)
    rw [← hR] at HL
    clear hR c
    by_cases b : R.broken = true
    · rw [if_pos b] at HL
      have e : outI 0 R = ([], 3) := by unfold outI; rw [if_pos rfl, if_pos b]
      rw [e]
      clear e b
      go_enter Try.func44, Try.ntmps44
      go_wp2_with (first
        | (go_at_call 67; refine HL.out.mono ?_; rintro e w2 ⟨g, rfl, hi, hv, hb⟩; have HB2 := Aside0.mk hb; clear hi hv hb))
      go_ret2
      exact ⟨_, rfl, Kd.R_nil _ _ _ _ _, HB2.out⟩
    · have b := Bool.eq_false_iff.mpr b
      rw [b] at HL
      by_cases en : R.ended = true
      · have e : outI 0 R = (R.a.getD [], 0) := by unfold outI; rw [if_pos rfl, if_neg (by rw [b]; decide), if_pos en]
        rw [e]
        have EN := Aside0.mk en
        clear e b en
        go_enter Try.func44, Try.ntmps44
        go_wp2_with (first
          | (go_at_call 67; refine HL.out.mono ?_; rintro e w2 ⟨g, rfl, hi, hv, hb⟩; have HB2 := Aside0.mk hb; obtain ⟨v, hy, hr⟩ := visS_read hv; have HV := Aside0.mk hr; obtain ⟨_, _, _, _, _, _, _, _, hG, _, _, _, _, _⟩ := hi; have h8 : w2.cell? ⟨g, 8, none⟩ = some (.bool R.ended) := (blk_cell hG 8).trans rfl; rw [EN.out] at h8; clear hG hv hb hr))
        go_ret2
        exact ⟨v, rfl, HV.out, HB2.out⟩
      · have en := Bool.eq_false_iff.mpr en
        have e : outI 0 R = ([], 4) := by unfold outI; rw [if_pos rfl, if_neg (by rw [b]; decide), if_neg (by rw [en]; decide)]
        rw [e]
        have EN := Aside0.mk en
        clear e b en
        go_enter Try.func44, Try.ntmps44
        go_wp2_with (first
          | (go_at_call 67; refine HL.out.mono ?_; rintro e w2 ⟨g, rfl, hi, hv, hb⟩; have HB2 := Aside0.mk hb; obtain ⟨_, _, _, _, _, _, _, _, hG, _, _, _, _, _⟩ := hi; have h8 : w2.cell? ⟨g, 8, none⟩ = some (.bool R.ended) := (blk_cell hG 8).trans rfl; rw [EN.out] at h8; clear hG hv hb))
        go_ret2
        exact ⟨_, rfl, Kd.R_nil _ _ _ _ _, HB2.out⟩
  · have e : outI (codeV l0 a1 a2) (runL stepS l0 a1 a2 none) = ([], codeV l0 a1 a2) := by unfold outI; rw [if_neg c]
    rw [e]
    have d : (codeV l0 a1 a2 != 0) = true := by simp [c]
    have HL := Aside0.mk (impl_lay.bad k A0 c0 l0 a1 a2 (.func (.func 69) #[] #[.pointer (some ⟨w.heap.size, 0, none⟩)]) _ _ (Kd.C_below HR0.out HB1.out) HC0.out H1.out c)
    clear e c
    go_enter Try.func44, Try.ntmps44
    go_wp2_with (first
      | (go_at_call 67; refine HL.out.mono ?_; rintro e w2 ⟨rfl, hb⟩; have HB2 := Aside0.mk hb; clear hb))
    go_ret2
    exact ⟨_, rfl, Kd.R_nil _ _ _ _ _, below_step HB1.out HB2.out⟩
end Go.Proofs.Ytgcagmmghckbbaa.A

