/- What the row of the law FnExactIsForced stands on, part 2. -/
import Derived.Test.YtoglcgnbkibpgaaDoorMFnExactIsForced1
/- The reference's search for covers, walked: it comes to what its plain twin comes to. -/
namespace Go.Proofs.YtoglcgnbkibpgaaDoor.A
open Go.RowKit Go.Proofs.YtoglcgnbkibpgaaDoorW.PrintWords Go.Proofs.YtoglcgnbkibpgaaDoorW.PrintLast Go.Proofs.YtoglcgnbkibpgaaDoorW.PrintMore Go.Proofs.YtoglcgnbkibpgaaDoorW.Cov Go.Proofs.YtoglcgnbkibpgaaDoorW.Tree
set_option linter.unusedVariables false
set_option linter.unusedSimpArgs false
abbrev kI : Kd Int := Kd.int .i64
abbrev kL : Kd (List Int) := Kd.slice 2 (Kd.int .i64)
def spec_l14Visit.T5 : Bool × List (List Nat × List Nat) := (true, [([], []), ([], []), ([1], [1]), ([2], [2]), ([3], [3]), ([], []), ([5], [5]), ([6], [6]), ([4, 7, 6], [4, 7]), ([0, 0, 1, 2, 3, 4, 5, 6, 7, 8], [0]), ([9, 0, 1, 2, 3, 4, 5, 6, 7, 8], [9]), ([10, 8, 8, 0, 1, 2, 3, 4, 5, 6, 7, 8], [8, 10])])
def spec_l14Visit.B5 : List Nat := [0, 0, 2, 6, 14, 0, 32, 96, 254, 511, 1023, 2047]
theorem spec_l14Visit.tab5 : rtab .any (opsOf Tryd.f75 5) = spec_l14Visit.T5 := by kernel_rfl
theorem spec_l14Visit.bits5 : waitsOk spec_l14Visit.T5.2 spec_l14Visit.B5 = true := by kernel_rfl
def spec_l14Visit.T6 : Bool × List (List Nat × List Nat) := (true, [([], []), ([0], [0]), ([1], [1]), ([2], [2]), ([], []), ([4], [4]), ([5], [5]), ([6], [6]), ([], []), ([7, 8], [7, 8]), ([], []), ([3, 9, 10, 9], [3, 9, 10]), ([11, 11, 0, 1, 2, 3, 4, 5, 6, 7, 8, 9, 10, 11], [11])])
def spec_l14Visit.B6 : List Nat := [0, 1, 3, 7, 0, 16, 48, 112, 0, 496, 0, 2047, 4095]
theorem spec_l14Visit.tab6 : rtab .any (opsOf Tryd.f75 6) = spec_l14Visit.T6 := by kernel_rfl
theorem spec_l14Visit.bits6 : waitsOk spec_l14Visit.T6.2 spec_l14Visit.B6 = true := by kernel_rfl
def spec_l14Visit.T10 : Bool × List (List Nat × List Nat) := (true, [([], []), ([], []), ([1], [1]), ([], []), ([], []), ([3, 4], [3, 4]), ([5], [5]), ([6], [6]), ([2, 7, 2], [2, 7]), ([0, 8, 8], [0, 8])])
def spec_l14Visit.B10 : List Nat := [0, 0, 2, 0, 0, 24, 56, 120, 254, 511]
theorem spec_l14Visit.tab10 : rtab .any (opsOf Tryd.f75 10) = spec_l14Visit.T10 := by kernel_rfl
theorem spec_l14Visit.bits10 : waitsOk spec_l14Visit.T10.2 spec_l14Visit.B10 = true := by kernel_rfl
theorem at_int_ {w : World} {ad : Addr} {n : Nat} {xs : List Int} {x : Int} (h : kI.C w (some ad) n xs) {i : Int} (h0 : 0 ≤ i) (h1 : i < n) (hx : rd xs i = x) : w.cell? (ad.add i.toNat) = some (.int .i64 x) := by
 (obtain ⟨ad', e, hc⟩ := Kd.at_int h i h0 h1); (injection e with e); subst e; (rw [← hx]); (exact hc)
theorem own_eq (seq : List Int) (h : seq.length ≤ 1048576) : spec_l01Own.f seq = some seq := by
 (unfold spec_l01Own.f); (simp); omega
set_option maxHeartbeats 4000000 in
set_option maxRecDepth 100000 in
theorem spec_l14Visit.calls' {C Q : Int} {rows : List (List Int)} (h : CovOk C Q rows) (limit most : Int) (hlim : 0 ≤ limit ∧ limit ≤ 20000) (w0 : World) (A : Option Addr) (cA : Nat) (hR : Kd.C kL w0 A rows.length rows) (hcA : rows.length ≤ cA) (g : Nat) (d : Nat) :
    ∀ (seq : List Int) (s : VS (List Int)) (w : World) (rest : List Res) (Aq : Option Addr) (cq : Nat) (A4 : Option Addr) (c4 : Nat), NodeOk rows Q.toNat d seq → okV limit s → s.over = false →
      Sp w0 ([Res.blk g #[.int .i64 C, .int .i64 Q, .slice A rows.length cA, .int .i64 limit, .int .i64 (s.steps), .slice A4 (s.found).length c4, .int .i64 most, .bool false] 55, Res.row kL 32 w0.heap.size (.slice A4 (s.found).length c4) (s.found), Res.row kI 2 w0.heap.size (.slice Aq seq.length cq) seq] ++ rest) w →
      Calls Tryd.prog 75 #[.pointer (some ⟨g, 0, none⟩), .slice Aq seq.length cq] w fun e w' => e = .returned (.tuple #[]) ∧ ∃ A4' c4', Sp w0 ([Res.blk g #[.int .i64 C, .int .i64 Q, .slice A rows.length cA, .int .i64 limit, .int .i64 ((visitG (leafC rows Q.toNat) (kidsC rows Q.toNat) limit most d seq s).steps), .slice A4' ((visitG (leafC rows Q.toNat) (kidsC rows Q.toNat) limit most d seq s).found).length c4', .int .i64 most, .bool (visitG (leafC rows Q.toNat) (kidsC rows Q.toNat) limit most d seq s).over] 55, Res.row kL 32 w0.heap.size (.slice A4' ((visitG (leafC rows Q.toNat) (kidsC rows Q.toNat) limit most d seq s).found).length c4') ((visitG (leafC rows Q.toNat) (kidsC rows Q.toNat) limit most d seq s).found), Res.row kI 2 w0.heap.size (.slice Aq seq.length cq) seq] ++ rest) w' := by
 induction d using Nat.strongRecOn with
 | _ d ih0 =>
 intro seq s w rest Aq cq A4 c4 hnd hok hov hsp; (have HS := A0_ hsp); (have HND := A0_ hnd); (have HOK := A0_ hok); (have HL := A0_ (show s.found.length ≤ 20001 by have := hok.2.1; have := hok.2.2.1; omega)); (have HOWN := A0_ (own_eq seq (by have := hnd.len; omega))); (have HST := A0_ (show 0 ≤ s.steps ∧ s.steps ≤ 20000 by have := hok.1; have := hok.2.2.2 hov; omega)); clear hsp hok; (have hw : wrap64 (s.steps + 1) = s.steps + 1 := by have := HST.out; unfold wrap64; omega); (have hg := (Sp.blk HS.out (i := 0) rfl).1); (have hy0 := (blk_cell hg 0).trans rfl); (have hy1 := (blk_cell hg 1).trans rfl); (have hy2 := (blk_cell hg 2).trans rfl); (have hy3 := (blk_cell hg 3).trans rfl); (have hy4 := (blk_cell hg 4).trans rfl); (have hy5 := (blk_cell hg 5).trans rfl); (have hy7 := (blk_cell hg 7).trans rfl); (have hz4 := blk_frozen hg 4); (have hz7 := blk_frozen hg 7); (have HS1 := A0_ (Sp.set HS.out 0 rfl 4 (.int .i64 (s.steps + 1)) (by simpa using blk_set (Sp.blk HS.out (i := 0) rfl).1 4 (.int .i64 (s.steps + 1))))); (by_cases c : s.steps + 1 > limit)
 ·(have cb : decide (limit < s.steps + 1) = true := decide_eq_true c); (rw [visit_lim rows Q.toNat limit most seq s d c]); clear ih0; (go_enter Tryd.func75, Tryd.ntmps75); go_wp2; (repeat (go_quiet (fail); try go_wp2)); (first | go_end0 | ((try simp only [Exit.inBlock, Exit.then]); refine bodyPost_ret (results_none rfl _ _ _) rfl ?_)); (exact ⟨rfl, A4, c4, Sp.set (Sp.drewN HS1.out nq) 0 rfl 7 (.bool true) (by simpa using blk_set (Sp.blk (Sp.drewN HS1.out nq) (i := 0) rfl).1 7 (.bool true))⟩)
 ·(have cb : decide (limit < s.steps + 1) = false := decide_eq_false c); (obtain ⟨kc, hcol⟩ := (column_ev h seq (by have := hnd.len; omega) hnd.idx).rounds); (by_cases cl : colV rows Q.toNat seq < 0)
  ·(rw [visit_leaf rows Q.toNat limit most seq s d c cl, hov]); (have HCOL := A0_ hcol); (have clb : decide (colV rows Q.toNat seq < 0) = true := decide_eq_true cl); clear ih0 hcol cl; (go_enter Tryd.func75, Tryd.ntmps75); go_wp2; (go_quiet (fail)); (have HS_ := A0_ (Sp.drewN HS1.out nq)); clear HS HS1; (have HS := HS_); clear HS_; (go_wp2_with (first | (go_at_call 70; refine (spec_l14Column.calls kc C Q A cA rows Aq cq seq _ _ (Kd.C_below hR HS.out.below) hcA (Sp.reads HS.out (i := 2) rfl).2.2 (Sp.reads HS.out (i := 2) rfl).2.1 HCOL.out).mono ?_; rintro e w1 ⟨rfl, hb⟩; have HS_ := A0_ (Sp.far HS.out hb); clear HS hb; have HS := HS_; clear HS_))); (have HS_ := A0_ (Sp.drew HS.out)); clear HS; (have HS := HS_); clear HS_
   refine start_ (n := 12) (S := fun w' => w'.cell? ⟨g, 5, none⟩ = some (.slice A4 s.found.length c4)) (ds := [11]) #[ff,ff,ff,ff,ff,ff,ff,ff,ff,ff,ff,ff] (by kernel_rfl) rfl rfl ((blk_cell (Sp.blk HS.out (i := 0) rfl).1 5).trans rfl) (fun hHeld => ?_)
   refine with_tabW spec_l14Visit.tab5 spec_l14Visit.bits5 (fun HT_ HW_ => ?_)
   (generalize w1.drew = wD at HS hHeld ⊢)
   refine pure_ (i := 0) (N := some 34) (v := ?_) (a' := ?_) #[tt,ff,ff,ff,ff,ff,ff,ff,ff,ff,ff,ff] rfl rfl (any_of HT_.out (by kernel_rfl)) (fun _ _ _ h => h) (Or.inl ⟨by rfl, ?_⟩) ?_ ?_
   rotate_left
   ·intro w'; go_simp; with_reducible rfl
   rotate_left
   ·(simp only [Act.put, sia_, sz_, ss_, i64_w, i32_w]); rfl
   refine pure_ (i := 1) (N := some 35) (v := ?_) (a' := ?_) #[tt,tt,ff,ff,ff,ff,ff,ff,ff,ff,ff,ff] rfl rfl (any_of HT_.out (by kernel_rfl)) (fun _ _ _ h => h) (Or.inl ⟨by rfl, ?_⟩) ?_ ?_
   rotate_left
   ·intro w'; go_simp; with_reducible rfl
   rotate_left
   ·(simp only [Act.put, sia_, sz_, ss_, i64_w, i32_w]); rfl
   refine pure_ (i := 2) (N := some 36) (v := ?_) (a' := ?_) #[tt,tt,tt,ff,ff,ff,ff,ff,ff,ff,ff,ff] rfl rfl (any_of HT_.out (by kernel_rfl)) (fun _ _ _ h => h) (Or.inl ⟨by rfl, ?_⟩) ?_ ?_
   rotate_left
   ·intro w'; go_simp; with_reducible rfl
   rotate_left
   ·(simp only [Act.put, sia_, sz_, ss_, i64_w, i32_w]); rfl
   refine pure_ (i := 3) (N := some 37) (v := ?_) (a' := ?_) #[tt,tt,tt,tt,ff,ff,ff,ff,ff,ff,ff,ff] rfl rfl (any_of HT_.out (by kernel_rfl)) (fun _ _ _ h => h) (Or.inl ⟨by rfl, ?_⟩) ?_ ?_
   rotate_left
   ·intro w'; go_simp; with_reducible rfl
   rotate_left
   ·(simp only [Act.put, sia_, sz_, ss_, i64_w, i32_w]); rfl
   refine take_ (i := 4) (N := some 38) (v := ?_) (a' := ?_) #[tt,tt,tt,tt,tt,ff,ff,ff,ff,ff,ff,ff] rfl rfl (take_ofW HT_.out HW_.out (by kernel_rfl)) (fun _ _ _ h => h) (Or.inl ⟨by rfl, ?_⟩) hHeld ?_ ?_
   rotate_left
   ·(rintro w' s0); go_simp; with_reducible rfl
   rotate_left
   ·(simp only [Act.put, sia_, sz_, ss_, i64_w, i32_w]); rfl
   refine pure_ (i := 5) (N := some 39) (v := ?_) (a' := ?_) #[tt,tt,tt,tt,tt,tt,ff,ff,ff,ff,ff,ff] rfl rfl (any_of HT_.out (by kernel_rfl)) (fun _ _ _ h => h) (Or.inl ⟨by rfl, ?_⟩) ?_ ?_
   rotate_left
   ·intro w'; go_simp; with_reducible rfl
   rotate_left
   ·(simp only [Act.put, sia_, sz_, ss_, i64_w, i32_w]); rfl
   refine one_ (i := 6) (N := some 40) #[tt,tt,tt,tt,tt,tt,tt,ff,ff,ff,ff,ff] rfl rfl (one_of HT_.out (by kernel_rfl)) (by decide) (fun K hK => ?_)
   (refine goes_ Tryd.func87 (by kernel_rfl) rfl #[.slice Aq seq.length cq] (by rfl) rfl rfl (by (try simp only [List.map_toArray, List.map_cons, List.map_nil]); first | done | rfl | (simp only [List.length_drop, List.length_take]; rfl)) ?_); (refine (spec_l01Own.calls Aq cq seq seq _ (Sp.reads HS.out (i := 2) rfl).2.2 (Sp.reads HS.out (i := 2) rfl).2.1 HOWN.out).mono ?_); (rintro e wA11 ⟨vA11, rfl, ho, hb⟩); (refine ⟨_, rfl, ?_⟩); (have HS_ := A0_ (Sp.made' HS.out hb ho)); clear HS; (have HS := HS_); clear HS_; clear hb ho; (obtain ⟨AA11, cA11, rfl⟩ := Sp.slice HS.out (i := 0) rfl)
   refine hK.out _ _ ((blk_cell (Sp.blk HS.out (i := 1) rfl).1 5).trans rfl) (fun hHeld => ?_)
   clear hK K; (refine norm_ (a' := ?_) ?_ ?_); rotate_left
   ·(show Act.put _ (some 40) _ = _); (simp only [Act.put, sia_, sz_, ss_, i64_w, i32_w]); rfl
   refine one_ (i := 7) (N := some 41) #[tt,tt,tt,tt,tt,tt,tt,tt,ff,ff,ff,ff] rfl rfl (one_of HT_.out (by kernel_rfl)) (by decide) (fun K hK => ?_)
   (refine event_step (v := .slice (some ⟨wA11.heap.size, 0, none⟩) 1 1) (w1 := wA11.alloc (.cells #[.slice AA11 seq.length cA11] 32)) (by rfl) ?_ ?_)
   ·(first | (go_simp; done) | (go_simp; rfl))
   refine hK.out _ _ ((blk_cell (blk_alloc (Sp.blk HS.out (i := 1) rfl).1 _) 5).trans rfl) (fun hHeld => ?_)
   clear hK K; (refine norm_ (a' := ?_) ?_ ?_); rotate_left
   ·(show Act.put _ (some 41) _ = _); (simp only [Act.put, sia_, sz_, ss_, i64_w, i32_w]); rfl
   refine one_ (i := 8) (N := some 42) #[tt,tt,tt,tt,tt,tt,tt,tt,tt,ff,ff,ff] rfl rfl (one_of HT_.out (by kernel_rfl)) (by decide) (fun K hK => ?_)
   (obtain ⟨fp_, gp_, ho_, hp_, hne_, hf_, hgf_, hc_⟩ := Sp.row2 HS.out (i := 2) (j := 0) (by decide) rfl rfl)
   refine Kd.R_append_step kL (w0 := wA11) (W := wA11) w0.heap.size (by rfl) (.tmp 38) (.tmp 41) 22 32 (.slice none 0 0) 24 rfl Tryd.underlying22 info32 rfl (by decide) (by omega) (.slice A4 s.found.length c4) s.found seq [.slice AA11 seq.length cA11] (fun k => fp_ k ∨ gp_ k ∨ wA11.heap.size ≤ k) gp_ rfl rfl ?aP ?aK ?aF ?aO (Below.refl _ _) ?aS ?aL ?_
   ((case aP => exact ⟨_, rfl, hp_⟩))
   (case aK => exact fun k hk => ⟨.inr (.inl hk), hne_ k hk⟩)
   (case aF => exact fun k hk => .inr (.inr hk))
   ((case aO => exact ho_)); ((case aS => exact HS.out.below.size)); ((case aL => have := HL.out; omega)); intro vA90 wA90 ho hb hg hat; (have HS_ := A0_ (hc_ _ _ _ ho hg)); clear HS; (have HS := HS_); clear HS_; clear ho hb hg hat ho_ hp_ hne_ hf_ hgf_ hc_ fp_ gp_; (obtain ⟨AA90, cA90, eA_⟩ := Sp.slice HS.out (i := 1) rfl); subst eA_
   refine hK.out _ _ ((blk_cell (Sp.blk HS.out (i := 0) rfl).1 5).trans rfl) (fun hHeld => ?_)
   clear hK K; (refine norm_ (a' := ?_) ?_ ?_); rotate_left
   ·(show Act.put _ (some 42) _ = _); (simp only [Act.put, sia_, sz_, ss_, i64_w, i32_w]); rfl
   refine pure_ (i := 9) (N := some 43) (v := ?_) (a' := ?_) #[tt,tt,tt,tt,tt,tt,tt,tt,tt,tt,ff,ff] rfl rfl (any_of HT_.out (by kernel_rfl)) (fun _ _ _ h => h) (Or.inl ⟨by rfl, ?_⟩) ?_ ?_
   rotate_left
   ·intro w'; go_simp; with_reducible rfl
   rotate_left
   ·(simp only [Act.put, sia_, sz_, ss_, i64_w, i32_w]); rfl
   refine pure_ (i := 10) (N := some 44) (v := ?_) (a' := ?_) #[tt,tt,tt,tt,tt,tt,tt,tt,tt,tt,tt,ff] rfl rfl (any_of HT_.out (by kernel_rfl)) (fun _ _ _ h => h) (Or.inl ⟨by rfl, ?_⟩) ?_ ?_
   rotate_left
   ·intro w'; go_simp; with_reducible rfl
   rotate_left
   ·(simp only [Act.put, sia_, sz_, ss_, i64_w, i32_w]); rfl
   refine last_ (i := 11) (N := none) #[tt,tt,tt,tt,tt,tt,tt,tt,tt,tt,tt,tt] rfl rfl (one_of HT_.out (by kernel_rfl)) (by decide) (fun K hK => ?_)
   (have hz_ := blk_frozen (Sp.blk HS.out (i := 0) rfl).1 5); (have hy_ : wA90.cell? ⟨g, 5, none⟩ = some (.slice A4 s.found.length c4) := (blk_cell (Sp.blk HS.out (i := 0) rfl).1 5).trans rfl); (refine skip_ (w1 := wA90.setCell ⟨g, 5, none⟩ (.slice AA90 (s.found ++ [seq]).length cA90)) (by rfl) rfl (by first | (go_simp; done) | (go_simp; rfl)) ?_); (have HS_ := A0_ (Sp.set HS.out 0 rfl 5 (.slice AA90 (s.found ++ [seq]).length cA90) (blk_put (cs' := #[.int .i64 C, .int .i64 Q, .slice A rows.length cA, .int .i64 limit, .int .i64 (s.steps + 1), .slice AA90 (s.found ++ [seq]).length cA90, .int .i64 most, .bool false]) (Sp.blk HS.out (i := 0) rfl).1 5 _ rfl))); clear HS; (have HS := HS_); clear HS_; clear hz_ hy_; (refine hK.out _ _ ?_); clear hK K; (refine done_ (done_of HT_.out (by kernel_rfl)) ?_); (try go_wp2); (first | go_end0 | ((try simp only [Exit.inBlock, Exit.then]); refine bodyPost_ret (results_none rfl _ _ _) rfl ?_)); (exact ⟨rfl, _, _, HS.out⟩)
  ·(have h1 : 1 ≤ d := by have := uncov_pos (show 0 ≤ colV rows Q.toNat seq by omega); have := hnd.dep; omega); (obtain ⟨d, rfl⟩ : ∃ d', d = d' + 1 := ⟨d - 1, by omega⟩); (rw [visit_kids rows Q.toNat limit most seq s d c (by omega), hov]); (have HC0 := A0_ (show 0 ≤ colV rows Q.toNat seq by omega)); (obtain ⟨L, hL⟩ : ∃ L, L = openRows rows seq (colV rows Q.toNat seq) := ⟨_, rfl⟩); (rw [← hL])
   obtain ⟨R, hRe⟩ : ∃ R, R = foldV most (visitG (leafC rows Q.toNat) (kidsC rows Q.toNat) limit most d) (L.map fun j => seq ++ [j]) ⟨s.steps + 1, s.found, false⟩ := ⟨_, rfl⟩
   (rw [← hRe])
   have HR0 := A0_ (show foldV most (visitG (leafC rows Q.toNat) (kidsC rows Q.toNat) limit most d) ((L.drop (0 : Int).toNat).map fun j => seq ++ [j]) ⟨s.steps + 1, s.found, false⟩ = R from hRe.symm)
   have HOK1 := A0_ (show okV limit (⟨s.steps + 1, s.found, false⟩ : VS (List Int)) from by obtain ⟨k1, k2, k3, k4⟩ := HOK.out; exact ⟨by dsimp only; omega, by dsimp only; omega, by dsimp only; omega, fun _ => by dsimp only; omega⟩)
   (have HLL := A0_ (show L.length ≤ 400 by rw [hL]; have := openRows_len rows seq (colV rows Q.toNat seq); have := h.n400; omega)); (have IH := A0_ (ih0 d (by omega))); (obtain ⟨kn, hkn⟩ := (Ev.and' (counts_ev h seq (by have := hnd.len; omega) hnd.idx) (open_ev h seq (colV rows Q.toNat seq)))); (obtain ⟨hcnt, hopn⟩ := hkn); (rw [← hL] at hopn); (have HLC := A0_ hL); (obtain ⟨col, hcl⟩ : ∃ col, col = colV rows Q.toNat seq := ⟨_, rfl⟩); (rw [← hcl] at hopn hcol); (have HCOL := A0_ hcol); (have HCNT := A0_ hcnt); (have HOPN := A0_ hopn); (have clb : decide (col < 0) = false := decide_eq_false (by rw [hcl]; exact cl)); (have HCL := A0_ hcl); clear ih0 hcol hcnt hopn cl hL hRe hcl HOK h1; (go_enter Tryd.func75, Tryd.ntmps75); go_wp2; (go_quiet (fail)); (have HS_ := A0_ (Sp.drewN HS1.out nq)); clear HS HS1; (have HS := HS_); clear HS_; (go_wp2_with (first | (go_at_call 70; refine (spec_l14Column.calls kc C Q A cA rows Aq cq seq _ _ (Kd.C_below hR HS.out.below) hcA (Sp.reads HS.out (i := 2) rfl).2.2 (Sp.reads HS.out (i := 2) rfl).2.1 HCOL.out).mono ?_; rintro e w1 ⟨rfl, hb⟩; have HS_ := A0_ (Sp.far HS.out hb); clear HS hb; have HS := HS_; clear HS_))); (have HS_ := A0_ (Sp.drew HS.out)); clear HS; (have HS := HS_); clear HS_
   refine start_ (n := 13) (S := fun w' => w'.cell? ⟨g, 0, none⟩ = some (.int .i64 C) ∧ w'.cell? ⟨g, 1, none⟩ = some (.int .i64 Q) ∧ w'.cell? ⟨g, 2, none⟩ = some (.slice A rows.length cA)) (ds := [11]) #[ff,ff,ff,ff,ff,ff,ff,ff,ff,ff,ff,ff,ff] (by kernel_rfl) rfl rfl (⟨(blk_cell (Sp.blk HS.out (i := 0) rfl).1 0).trans rfl, (blk_cell (Sp.blk HS.out (i := 0) rfl).1 1).trans rfl, (blk_cell (Sp.blk HS.out (i := 0) rfl).1 2).trans rfl⟩) (fun hHeld => ?_)
   refine with_tabW spec_l14Visit.tab6 spec_l14Visit.bits6 (fun HT_ HW_ => ?_)
   (generalize w1.drew = wD at HS hHeld ⊢)
   refine pure_ (i := 0) (N := some 45) (v := ?_) (a' := ?_) #[tt,ff,ff,ff,ff,ff,ff,ff,ff,ff,ff,ff,ff] rfl rfl (any_of HT_.out (by kernel_rfl)) (fun _ _ _ h => h) (Or.inl ⟨by rfl, ?_⟩) ?_ ?_
   rotate_left
   ·intro w'; go_simp; with_reducible rfl
   rotate_left
   ·(simp only [Act.put, sia_, sz_, ss_, i64_w, i32_w]); rfl
   refine pure_ (i := 1) (N := some 46) (v := ?_) (a' := ?_) #[tt,tt,ff,ff,ff,ff,ff,ff,ff,ff,ff,ff,ff] rfl rfl (any_of HT_.out (by kernel_rfl)) (fun _ _ _ h => h) (Or.inl ⟨by rfl, ?_⟩) ?_ ?_
   rotate_left
   ·intro w'; go_simp; with_reducible rfl
   rotate_left
   ·(simp only [Act.put, sia_, sz_, ss_, i64_w, i32_w]); rfl
   refine pure_ (i := 2) (N := some 47) (v := ?_) (a' := ?_) #[tt,tt,tt,ff,ff,ff,ff,ff,ff,ff,ff,ff,ff] rfl rfl (any_of HT_.out (by kernel_rfl)) (fun _ _ _ h => h) (Or.inl ⟨by rfl, ?_⟩) ?_ ?_
   rotate_left
   ·intro w'; go_simp; with_reducible rfl
   rotate_left
   ·(simp only [Act.put, sia_, sz_, ss_, i64_w, i32_w]); rfl
   refine take_ (i := 3) (N := some 48) (v := ?_) (a' := ?_) #[tt,tt,tt,tt,ff,ff,ff,ff,ff,ff,ff,ff,ff] rfl rfl (take_ofW HT_.out HW_.out (by kernel_rfl)) (fun _ _ _ h => h) (Or.inl ⟨by rfl, ?_⟩) hHeld ?_ ?_
   rotate_left
   ·(rintro w' ⟨s0, s1, s2⟩); go_simp; with_reducible rfl
   rotate_left
   ·(simp only [Act.put, sia_, sz_, ss_, i64_w, i32_w]); rfl
   refine pure_ (i := 4) (N := some 49) (v := ?_) (a' := ?_) #[tt,tt,tt,tt,tt,ff,ff,ff,ff,ff,ff,ff,ff] rfl rfl (any_of HT_.out (by kernel_rfl)) (fun _ _ _ h => h) (Or.inl ⟨by rfl, ?_⟩) ?_ ?_
   rotate_left
   ·intro w'; go_simp; with_reducible rfl
   rotate_left
   ·(simp only [Act.put, sia_, sz_, ss_, i64_w, i32_w]); rfl
   refine pure_ (i := 5) (N := some 50) (v := ?_) (a' := ?_) #[tt,tt,tt,tt,tt,tt,ff,ff,ff,ff,ff,ff,ff] rfl rfl (any_of HT_.out (by kernel_rfl)) (fun _ _ _ h => h) (Or.inl ⟨by rfl, ?_⟩) ?_ ?_
   rotate_left
   ·intro w'; go_simp; with_reducible rfl
   rotate_left
   ·(simp only [Act.put, sia_, sz_, ss_, i64_w, i32_w]); rfl
   refine pure_ (i := 6) (N := some 51) (v := ?_) (a' := ?_) #[tt,tt,tt,tt,tt,tt,tt,ff,ff,ff,ff,ff,ff] rfl rfl (any_of HT_.out (by kernel_rfl)) (fun _ _ _ h => h) (Or.inl ⟨by rfl, ?_⟩) ?_ ?_
   rotate_left
   ·intro w'; go_simp; with_reducible rfl
   rotate_left
   ·(simp only [Act.put, sia_, sz_, ss_, i64_w, i32_w]); rfl
   refine take_ (i := 7) (N := some 52) (v := ?_) (a' := ?_) #[tt,tt,tt,tt,tt,tt,tt,tt,ff,ff,ff,ff,ff] rfl rfl (take_ofW HT_.out HW_.out (by kernel_rfl)) (fun _ _ _ h => h) (Or.inl ⟨by rfl, ?_⟩) hHeld ?_ ?_
   rotate_left
   ·(rintro w' ⟨s0, s1, s2⟩); go_simp; with_reducible rfl
   rotate_left
   ·(simp only [Act.put, sia_, sz_, ss_, i64_w, i32_w]); rfl
   refine pure_ (i := 8) (N := some 53) (v := ?_) (a' := ?_) #[tt,tt,tt,tt,tt,tt,tt,tt,tt,ff,ff,ff,ff] rfl rfl (any_of HT_.out (by kernel_rfl)) (fun _ _ _ h => h) (Or.inl ⟨by rfl, ?_⟩) ?_ ?_
   rotate_left
   ·intro w'; go_simp; with_reducible rfl
   rotate_left
   ·(simp only [Act.put, sia_, sz_, ss_, i64_w, i32_w]); rfl
   refine pure_ (i := 10) (N := some 55) (v := ?_) (a' := ?_) #[tt,tt,tt,tt,tt,tt,tt,tt,tt,ff,tt,ff,ff] rfl rfl (any_of HT_.out (by kernel_rfl)) (fun _ _ _ h => h) (Or.inl ⟨by rfl, ?_⟩) ?_ ?_
   rotate_left
   ·intro w'; go_simp; with_reducible rfl
   rotate_left
   ·(simp only [Act.put, sia_, sz_, ss_, i64_w, i32_w]); rfl
   refine one_ (i := 9) (N := some 54) #[tt,tt,tt,tt,tt,tt,tt,tt,tt,tt,tt,ff,ff] rfl rfl (one_of HT_.out (by kernel_rfl)) (by decide) (fun K hK => ?_)
   (refine goes_ Tryd.func85 (by kernel_rfl) rfl #[.agg #[.int .i64 C, .int .i64 Q, .slice A rows.length cA], .slice Aq seq.length cq] (by rfl) rfl rfl (by (try simp only [List.map_toArray, List.map_cons, List.map_nil]); first | done | rfl | (simp only [List.length_drop, List.length_take]; rfl)) ?_); (refine (spec_l13Counts.calls kn C Q A cA rows Aq cq seq _ _ (Kd.C_below hR HS.out.below) hcA (Sp.reads HS.out (i := 2) rfl).2.2 (Sp.reads HS.out (i := 2) rfl).2.1 HCNT.out).mono ?_); (rintro e wA21 ⟨vA21, rfl, ho, hb⟩); (refine ⟨_, rfl, ?_⟩); (have HS_ := A0_ (Sp.made' HS.out hb ho)); clear HS; (have HS := HS_); clear HS_; clear hb ho; (obtain ⟨AA21, cA21, rfl⟩ := Sp.slice HS.out (i := 0) rfl)
   refine hK.out _ _ (⟨(blk_cell (Sp.blk HS.out (i := 1) rfl).1 0).trans rfl, (blk_cell (Sp.blk HS.out (i := 1) rfl).1 1).trans rfl, (blk_cell (Sp.blk HS.out (i := 1) rfl).1 2).trans rfl⟩) (fun hHeld => ?_)
   clear hK K; (refine norm_ (a' := ?_) ?_ ?_); rotate_left
   ·(show Act.put _ (some 54) _ = _); (simp only [Act.put, sia_, sz_, ss_, i64_w, i32_w]); rfl
   refine last_ (i := 11) (N := some 56) #[tt,tt,tt,tt,tt,tt,tt,tt,tt,tt,tt,tt,ff] rfl rfl (one_of HT_.out (by kernel_rfl)) (by decide) (fun K hK => ?_)
   (refine goes_ Tryd.func86 (by kernel_rfl) rfl #[.agg #[.int .i64 C, .int .i64 Q, .slice A rows.length cA], .slice AA21 (cntL rows C.toNat seq).length cA21, .int .i64 col] (by rfl) rfl rfl (by (try simp only [List.map_toArray, List.map_cons, List.map_nil]); first | done | rfl | (simp only [List.length_drop, List.length_take]; rfl)) ?_); (refine (spec_l14Open.calls kn C Q A cA rows AA21 cA21 (cntL rows C.toNat seq) col L _ (Kd.C_below hR HS.out.below) hcA (Sp.reads HS.out (i := 0) rfl).2.2 (Sp.reads HS.out (i := 0) rfl).2.1 HOPN.out).mono ?_); (rintro e wA22 ⟨vA22, rfl, ho, hb⟩); (refine ⟨_, rfl, ?_⟩); (have HS_ := A0_ (Sp.made' HS.out hb ho)); clear HS; (have HS := HS_); clear HS_; clear hb ho; (obtain ⟨AA22, cA22, rfl⟩ := Sp.slice HS.out (i := 0) rfl); (refine hK.out _ _ ?_); clear hK K; (refine norm_ (a' := ?_) ?_ ?_); rotate_left
   ·(show Act.put _ (some 56) _ = _); (simp only [Act.put, sia_, sz_, ss_, i64_w, i32_w]); rfl
   refine pure_ (i := 12) (N := some 5) (v := ?_) (a' := ?_) #[tt,tt,tt,tt,tt,tt,tt,tt,tt,tt,tt,tt,tt] rfl rfl (any_of HT_.out (by kernel_rfl)) (fun _ _ _ h => h) (Or.inl ⟨by rfl, ?_⟩) ?_ ?_
   rotate_left
   ·intro w'; go_simp; with_reducible rfl
   rotate_left
   ·(simp only [Act.put, sia_, sz_, ss_, i64_w, i32_w]); rfl
   (refine done_ (done_of HT_.out (by kernel_rfl)) ?_); (have HS_ := A0_ (Sp.arr (pre := [Res.row kI 2 w0.heap.size (.slice AA22 (L).length cA22) (L), Res.row kI 2 w0.heap.size (.slice AA21 (cntL rows C.toNat seq).length cA21) (cntL rows C.toNat seq), Res.blk g #[.int .i64 C, .int .i64 Q, .slice A rows.length cA, .int .i64 limit, .int .i64 (s.steps + 1), .slice A4 (s.found).length c4, .int .i64 most, .bool false] 55, Res.row kL 32 w0.heap.size (.slice A4 (s.found).length c4) (s.found), Res.row kI 2 w0.heap.size (.slice Aq seq.length cq) seq]) (pre' := [Res.row kI 2 w0.heap.size (.slice AA21 (cntL rows C.toNat seq).length cA21) (cntL rows C.toNat seq), Res.blk g #[.int .i64 C, .int .i64 Q, .slice A rows.length cA, .int .i64 limit, .int .i64 (s.steps + 1), .slice A4 (s.found).length c4, .int .i64 most, .bool false] 55, Res.row kL 32 w0.heap.size (.slice A4 (s.found).length c4) (s.found), Res.row kI 2 w0.heap.size (.slice AA22 (L).length cA22) (L), Res.row kI 2 w0.heap.size (.slice Aq seq.length cq) seq]) (rest := rest) [1, 2, 3, 0, 4] HS.out rfl rfl)); clear HS; (have HS := HS_); clear HS_; (have HS_ := A0_ (Sp.tail HS.out)); clear HS; (have HS := HS_); clear HS_; go_wp2
   go_loopg [6] (L.length + 1) (fun kq v6 w' => ∃ (i : Int) (s' : VS (List Int)) (A4' : Option Addr) (c4' : Nat), v6 = .int .i64 i ∧ Aside0 (0 ≤ i ∧ i ≤ L.length ∧ kq + i.toNat = L.length + 1) ∧ Aside0 (okV limit s') ∧ Aside0 (foldV most (visitG (leafC rows Q.toNat) (kidsC rows Q.toNat) limit most d) ((L.drop i.toNat).map fun j => seq ++ [j]) s' = R) ∧ Aside0 (Sp w0 ([Res.blk g #[.int .i64 C, .int .i64 Q, .slice A rows.length cA, .int .i64 limit, .int .i64 (s'.steps), .slice A4' (s'.found).length c4', .int .i64 most, .bool s'.over] 55, Res.row kL 32 w0.heap.size (.slice A4' (s'.found).length c4') (s'.found), Res.row kI 2 w0.heap.size (.slice AA22 (L).length cA22) (L), Res.row kI 2 w0.heap.size (.slice Aq seq.length cq) seq] ++ rest) w'))
   case atStart => exact ⟨0, ⟨s.steps + 1, s.found, false⟩, A4, c4, rfl, ⟨by omega, by omega, by simp⟩, HOK1, HR0, HS⟩
   case round =>
    clear HS HOK1 HR0; (obtain ⟨i, s', A5, c5, rfl, HX, HOK, HR, HS⟩ := hrel); (obtain ⟨k1, rfl⟩ : ∃ k1, gk = k1 + 1 := ⟨gk - 1, by have := HX.out; omega⟩); (have PX := A0_ HX.out.1); (have pX : (0 ≤ i) = True := eq_true HX.out.1); (have hg_ := (Sp.blk HS.out (i := 0) rfl).1); (have hy5 : wr.cell? ⟨g, 5, none⟩ = some (.slice A5 s'.found.length c5) := (blk_cell hg_ 5).trans rfl); (have hy6 : wr.cell? ⟨g, 6, none⟩ = some (.int .i64 most) := (blk_cell hg_ 6).trans rfl); (have hy7 : wr.cell? ⟨g, 7, none⟩ = some (.bool s'.over) := (blk_cell hg_ 7).trans rfl); clear hg_; (by_cases c : i < (L.length : Int))
    ·(have cb : decide (i < (L.length : Int)) = true := decide_eq_true c); (have QX := A0_ c); (have qX : (i < (L.length : Int)) = True := eq_true c)
     cases ho : s'.over with
     | true =>
      (rw [ho] at hy7); go_wp2; (repeat (go_quiet (fail); try go_wp2)); (first | go_end0 | ((try simp only [Exit.inBlock, Exit.then]); refine bodyPost_ret (results_none rfl _ _ _) rfl ?_)); (have er : R = s' := by rw [← HR.out]; exact fold_stop' most _ _ s' (.inl ho)); subst er; (refine ⟨rfl, A5, c5, ?_⟩); (first | exact Sp.out (Sp.drewN HS.out _) 2 | exact Sp.out (Sp.drew HS.out) 2 | exact Sp.out HS.out 2)
     | false =>
      (rw [ho] at hy7); (by_cases cf : (s'.found.length : Int) < most)
      ·(have cfb : decide ((s'.found.length : Int) < most) = true := decide_eq_true cf); (have HOV := A0_ ho); (rw [ho] at HS); (have hil : i.toNat < L.length := by have := HX.out; omega); (obtain ⟨x, hx⟩ : ∃ x, x = L[i.toNat] := ⟨_, rfl⟩); (have HX1 := A0_ (show rd L i = x from by rw [rd_at L i HX.out.1 c, hx])); (obtain ⟨ado, eo, _⟩ := Kd.at_int (Sp.reads HS.out (i := 2) rfl).2.2 i HX.out.1 c); subst eo; (have HN2 := A0_ (NodeOk.next HND.out HC0.out (j := x) (by rw [hx, ← HLC.out]; exact List.getElem_mem hil))); (have HR2' := (fold_step most (visitG (leafC rows Q.toNat) (kidsC rows Q.toNat) limit most d) seq L i.toNat x hil hx.symm s' ho cf).symm.trans HR.out); (obtain ⟨R1, hR1⟩ : ∃ R1, R1 = visitG (leafC rows Q.toNat) (kidsC rows Q.toNat) limit most d (seq ++ [x]) s' := ⟨_, rfl⟩); (rw [← hR1] at HR2'); (have HR2 := A0_ HR2'); (have HR1 := A0_ hR1.symm); (have HOK1 := A0_ (show okV limit R1 from by rw [hR1]; exact visit_ok _ _ limit most d _ s' HOK.out ho)); (have hwi : wrap64 (i + 1) = i + 1 := by have := HX.out; have := HLL.out; unfold wrap64; omega); clear HR2' hR1 ho hx hil HR; go_wp2; (repeat (go_quiet (fail); try go_wp2)); (have HS_ := A0_ (Sp.drew (Sp.drewN HS.out nq))); clear HS hy5 hy6 hy7; (have HS := HS_); clear HS_; skip
       refine start_ (n := 10) (S := fun w' => w'.cell? (ado.add (i).toNat) = some (.int .i64 x)) (ds := [9]) #[ff,ff,ff,ff,ff,ff,ff,ff,ff,ff] (by kernel_rfl) rfl rfl (at_int_ (Sp.reads HS.out (i := 2) rfl).2.2 PX.out QX.out HX1.out) (fun hHeld => ?_)
       refine with_tabW spec_l14Visit.tab10 spec_l14Visit.bits10 (fun HT_ HW_ => ?_)
       (generalize (wr.drewN nq).drew = wD at HS hHeld ⊢)
       refine pure_ (i := 0) (N := some 82) (v := ?_) (a' := ?_) #[tt,ff,ff,ff,ff,ff,ff,ff,ff,ff] rfl rfl (any_of HT_.out (by kernel_rfl)) (fun _ _ _ h => h) (Or.inl ⟨by rfl, ?_⟩) ?_ ?_
       rotate_left
       ·intro w'; go_simp; with_reducible rfl
       rotate_left
       ·(simp only [Act.put, sia_, sz_, ss_, i64_w, i32_w]); rfl
       refine pure_ (i := 1) (N := some 83) (v := ?_) (a' := ?_) #[tt,tt,ff,ff,ff,ff,ff,ff,ff,ff] rfl rfl (any_of HT_.out (by kernel_rfl)) (fun _ _ _ h => h) (Or.inl ⟨by rfl, ?_⟩) ?_ ?_
       rotate_left
       ·intro w'; go_simp; with_reducible rfl
       rotate_left
       ·(simp only [Act.put, sia_, sz_, ss_, i64_w, i32_w]); rfl
       refine pure_ (i := 3) (N := some 85) (v := ?_) (a' := ?_) #[tt,tt,ff,tt,ff,ff,ff,ff,ff,ff] rfl rfl (any_of HT_.out (by kernel_rfl)) (fun _ _ _ h => h) (Or.inl ⟨by rfl, ?_⟩) ?_ ?_
       rotate_left
       ·intro w'; go_simp; with_reducible rfl
       rotate_left
       ·(simp only [Act.put, sia_, sz_, ss_, i64_w, i32_w]); rfl
       refine pure_ (i := 4) (N := some 86) (v := ?_) (a' := ?_) #[tt,tt,ff,tt,tt,ff,ff,ff,ff,ff] rfl rfl (any_of HT_.out (by kernel_rfl)) (fun _ _ _ h => h) (Or.inl ⟨by rfl, ?_⟩) ?_ ?_
       rotate_left
       ·intro w'; go_simp; with_reducible rfl
       rotate_left
       ·(simp only [Act.put, sia_, sz_, ss_, i64_w, i32_w]); rfl
       refine pure_ (i := 5) (N := some 87) (v := ?_) (a' := ?_) #[tt,tt,ff,tt,tt,tt,ff,ff,ff,ff] rfl rfl (any_of HT_.out (by kernel_rfl)) (fun _ _ _ h => h) (Or.inl ⟨by rfl, ?_⟩) ?_ ?_
       rotate_left
       ·intro w'; go_simp; with_reducible rfl
       rotate_left
       ·(simp only [Act.put, sia_, sz_, ss_, i64_w, i32_w]); rfl
       refine take_ (i := 6) (N := some 88) (v := ?_) (a' := ?_) #[tt,tt,ff,tt,tt,tt,tt,ff,ff,ff] rfl rfl (take_ofW HT_.out HW_.out (by kernel_rfl)) (fun _ _ _ h => h) (Or.inl ⟨by rfl, ?_⟩) hHeld ?_ ?_
       rotate_left
       ·(rintro w' s0); go_simp; with_reducible rfl
       rotate_left
       ·(simp only [Act.put, sia_, sz_, ss_, i64_w, i32_w]); rfl
       refine two_ (i := 2) (j := 7) (Ni := some 84) (Nj := some 89) #[tt,tt,tt,tt,tt,tt,tt,ff,ff,ff] #[tt,tt,ff,tt,tt,tt,tt,tt,ff,ff] rfl rfl rfl rfl (two_of HT_.out (by kernel_rfl)) (by decide) (by decide) (fun K hK => ?_) (fun K hK => ?_)
       ·(refine goes_ Tryd.func87 (by kernel_rfl) rfl #[.slice Aq seq.length cq] (by rfl) rfl rfl (by (try simp only [List.map_toArray, List.map_cons, List.map_nil]); first | done | rfl | (simp only [List.length_drop, List.length_take]; rfl)) ?_); (refine (spec_l01Own.calls Aq cq seq seq _ (Sp.reads HS.out (i := 3) rfl).2.2 (Sp.reads HS.out (i := 3) rfl).2.1 HOWN.out).mono ?_); (rintro e wA41 ⟨vA41, rfl, ho, hb⟩); (refine ⟨_, rfl, ?_⟩); (have HS_ := A0_ (Sp.made' HS.out hb ho)); clear HS; (have HS := HS_); clear HS_; clear hb ho; (obtain ⟨AA41, cA41, rfl⟩ := Sp.slice HS.out (i := 0) rfl)
        refine hK.out _ _ (at_int_ (Sp.reads HS.out (i := 3) rfl).2.2 PX.out QX.out HX1.out) (fun hHeld => ?_)
        clear hK K; (refine norm_ (a' := ?_) ?_ ?_); rotate_left
        ·(show Act.put _ (some 84) _ = _); (simp only [Act.put, sia_, sz_, ss_, i64_w, i32_w]); rfl
        refine one_ (i := 7) (N := some 89) #[tt,tt,tt,tt,tt,tt,tt,tt,ff,ff] rfl rfl (one_of HT_.out (by kernel_rfl)) (by decide) (fun K hK => ?_)
        refine Kd.R_lit_step kI _ 2 ?hg (N := 89) ?hd (xs := ([x] : List Int)) (inner := [.int .i64 x]) (ok := fun _ => True) (okp := fun _ => True) ?hr ?hp (fun _ hk => hk) trivial (Below.refl _ _) (Nat.le_refl _) (by simp) ?_
        ((case hd => rfl)); ((case hg => rfl)); ((case hr => first | (go_simp; done) | (go_simp; rfl))); ((case hp => exact (Reps.one rfl (Reps.none _ _)))); intro vA42 wA42 ho hb hg_ hnew_; clear hg_ hnew_; (have HS_ := A0_ (Sp.made' HS.out hb ho)); clear HS; (have HS := HS_); clear HS_; clear hb ho; (obtain ⟨AA42, cA42, eA_⟩ := Sp.slice HS.out (i := 0) rfl); subst eA_
        refine hK.out _ _ (at_int_ (Sp.reads HS.out (i := 4) rfl).2.2 PX.out QX.out HX1.out) (fun hHeld => ?_)
        clear hK K; (refine norm_ (a' := ?_) ?_ ?_); rotate_left
        ·(show Act.put _ (some 89) _ = _); (simp only [Act.put, sia_, sz_, ss_, i64_w, i32_w]); rfl
        refine one_ (i := 8) (N := some 90) #[tt,tt,tt,tt,tt,tt,tt,tt,tt,ff] rfl rfl (one_of HT_.out (by kernel_rfl)) (by decide) (fun K hK => ?_)
        (obtain ⟨fp_, ho_, hf_, hc_⟩ := Sp.row HS.out (i := 1) rfl)
        refine Kd.R_append_rows_step kI w0.heap.size (by rfl) (.tmp 84) (.tmp 89) 32 2 (.int .i64 0) 8 rfl Tryd.underlying32 info2 rfl (by decide) (by omega) _ seq ([x] : List Int) _ _ _ _ (fun _ => False) rfl rfl ho_ (Sp.reads HS.out (i := 0) rfl).2.2 (fun _ _ h => h) (fun _ h => h.elim) (fun _ h => .inr h) HS.out.below HS.out.below.size ?aL ?_
        ((case aL => have := HND.out.len; simp only [List.length_singleton, List.length_cons, List.length_nil]; omega)); intro vA43 wA43 ho hb hg hat; (have HS_ := A0_ (hc_ _ _ _ ho hg)); clear HS; (have HS := HS_); clear HS_; clear ho hb hg hat ho_ hf_ hc_ fp_; (obtain ⟨AA43, cA43, eA_⟩ := Sp.slice HS.out (i := 1) rfl); subst eA_
        refine hK.out _ _ (at_int_ (Sp.reads HS.out (i := 4) rfl).2.2 PX.out QX.out HX1.out) (fun hHeld => ?_)
        clear hK K; (refine norm_ (a' := ?_) ?_ ?_); rotate_left
        ·(show Act.put _ (some 90) _ = _); (simp only [Act.put, sia_, sz_, ss_, i64_w, i32_w]); rfl
        refine last_ (i := 9) (N := some 91) #[tt,tt,tt,tt,tt,tt,tt,tt,tt,tt] rfl rfl (one_of HT_.out (by kernel_rfl)) (by decide) (fun K hK => ?_)
        (have HS_ := A0_ (Sp.arr (pre := [Res.row kI 2 w0.heap.size (.slice AA42 (([x] : List Int)).length cA42) (([x] : List Int)), Res.row kI 2 w0.heap.size (.slice AA43 (seq ++ ([x] : List Int)).length cA43) (seq ++ ([x] : List Int)), Res.blk g #[.int .i64 C, .int .i64 Q, .slice A rows.length cA, .int .i64 limit, .int .i64 (s'.steps), .slice A5 (s'.found).length c5, .int .i64 most, .bool false] 55, Res.row kL 32 w0.heap.size (.slice A5 (s'.found).length c5) (s'.found), Res.row kI 2 w0.heap.size (.slice (some ado) (L).length cA22) (L), Res.row kI 2 w0.heap.size (.slice Aq seq.length cq) seq]) (pre' := [Res.blk g #[.int .i64 C, .int .i64 Q, .slice A rows.length cA, .int .i64 limit, .int .i64 (s'.steps), .slice A5 (s'.found).length c5, .int .i64 most, .bool false] 55, Res.row kL 32 w0.heap.size (.slice A5 (s'.found).length c5) (s'.found), Res.row kI 2 w0.heap.size (.slice AA43 (seq ++ ([x] : List Int)).length cA43) (seq ++ ([x] : List Int)), Res.row kI 2 w0.heap.size (.slice AA42 (([x] : List Int)).length cA42) (([x] : List Int)), Res.row kI 2 w0.heap.size (.slice (some ado) (L).length cA22) (L), Res.row kI 2 w0.heap.size (.slice Aq seq.length cq) seq]) (rest := rest) [2, 3, 1, 0, 4, 5] HS.out rfl rfl)); clear HS; (have HS := HS_); clear HS_; (refine goes_ Tryd.func75 (by kernel_rfl) rfl #[.pointer (some ⟨g, 0, none⟩), .slice AA43 (seq ++ [x]).length cA43] (by rfl) rfl rfl (by (try simp only [List.map_toArray, List.map_cons, List.map_nil]); first | done | rfl | (simp only [List.length_drop, List.length_take]; rfl)) ?_); (refine (IH.out (seq ++ [x]) s' _ ([Res.row kI 2 w0.heap.size (.slice AA42 (([x] : List Int)).length cA42) (([x] : List Int)), Res.row kI 2 w0.heap.size (.slice (some ado) (L).length cA22) (L), Res.row kI 2 w0.heap.size (.slice Aq seq.length cq) seq] ++ rest) AA43 cA43 A5 c5 HN2.out HOK.out HOV.out HS.out).mono ?_); (rintro e wB ⟨rfl, A6, c6, hs_⟩); (refine ⟨_, rfl, ?_⟩); (have HS_ := A0_ hs_); clear HS hs_; (have HS := HS_); clear HS_; (rw [HR1.out] at HS); (refine hK.out _ _ ?_); clear hK K; (refine norm_ (a' := ?_) ?_ ?_); rotate_left
        ·(show Act.put _ (some 91) _ = _); (simp only [Act.put, sia_, sz_, ss_, i64_w, i32_w]); rfl
        (refine done_ (done_of HT_.out (by kernel_rfl)) ?_); (have HS_ := A0_ (Sp.arr (pre := [Res.blk g #[.int .i64 C, .int .i64 Q, .slice A rows.length cA, .int .i64 limit, .int .i64 (R1.steps), .slice A6 (R1.found).length c6, .int .i64 most, .bool R1.over] 55, Res.row kL 32 w0.heap.size (.slice A6 (R1.found).length c6) (R1.found), Res.row kI 2 w0.heap.size (.slice AA43 (seq ++ ([x] : List Int)).length cA43) (seq ++ ([x] : List Int)), Res.row kI 2 w0.heap.size (.slice AA42 (([x] : List Int)).length cA42) (([x] : List Int)), Res.row kI 2 w0.heap.size (.slice (some ado) (L).length cA22) (L), Res.row kI 2 w0.heap.size (.slice Aq seq.length cq) seq]) (pre' := [Res.row kI 2 w0.heap.size (.slice AA43 (seq ++ ([x] : List Int)).length cA43) (seq ++ ([x] : List Int)), Res.row kI 2 w0.heap.size (.slice AA42 (([x] : List Int)).length cA42) (([x] : List Int)), Res.blk g #[.int .i64 C, .int .i64 Q, .slice A rows.length cA, .int .i64 limit, .int .i64 (R1.steps), .slice A6 (R1.found).length c6, .int .i64 most, .bool R1.over] 55, Res.row kL 32 w0.heap.size (.slice A6 (R1.found).length c6) (R1.found), Res.row kI 2 w0.heap.size (.slice (some ado) (L).length cA22) (L), Res.row kI 2 w0.heap.size (.slice Aq seq.length cq) seq]) (rest := rest) [2, 3, 0, 1, 4, 5] HS.out rfl rfl)); clear HS; (have HS := HS_); clear HS_; (have HS_ := A0_ (Sp.tail (Sp.tail HS.out))); clear HS; (have HS := HS_); clear HS_; (try go_wp2); (go_roundg k1)
        case measure => omega
        case rel => exact ⟨i + 1, R1, A6, c6, (by first | rfl | rw [hwi]), ⟨by have := HX.out; omega, by have := HX.out; omega, by have := HX.out; omega⟩, HOK1, ⟨by rw [show (i + 1).toNat = i.toNat + 1 from by have := HX.out; omega]; exact HR2.out⟩, HS⟩
       ·refine Kd.R_lit_step kI _ 2 ?hg (N := 89) ?hd (xs := ([x] : List Int)) (inner := [.int .i64 x]) (ok := fun _ => True) (okp := fun _ => True) ?hr ?hp (fun _ hk => hk) trivial (Below.refl _ _) (Nat.le_refl _) (by simp) ?_
        ((case hd => rfl)); ((case hg => rfl)); ((case hr => first | (go_simp; done) | (go_simp; rfl))); ((case hp => exact (Reps.one rfl (Reps.none _ _)))); intro vA41 wA41 ho hb hg_ hnew_; clear hg_ hnew_; (have HS_ := A0_ (Sp.made' HS.out hb ho)); clear HS; (have HS := HS_); clear HS_; clear hb ho; (obtain ⟨AA41, cA41, eA_⟩ := Sp.slice HS.out (i := 0) rfl); subst eA_
        refine hK.out _ _ (at_int_ (Sp.reads HS.out (i := 3) rfl).2.2 PX.out QX.out HX1.out) (fun hHeld => ?_)
        clear hK K; (refine norm_ (a' := ?_) ?_ ?_); rotate_left
        ·(show Act.put _ (some 89) _ = _); (simp only [Act.put, sia_, sz_, ss_, i64_w, i32_w]); rfl
        refine one_ (i := 2) (N := some 84) #[tt,tt,tt,tt,tt,tt,tt,tt,ff,ff] rfl rfl (one_of HT_.out (by kernel_rfl)) (by decide) (fun K hK => ?_)
        (refine goes_ Tryd.func87 (by kernel_rfl) rfl #[.slice Aq seq.length cq] (by rfl) rfl rfl (by (try simp only [List.map_toArray, List.map_cons, List.map_nil]); first | done | rfl | (simp only [List.length_drop, List.length_take]; rfl)) ?_); (refine (spec_l01Own.calls Aq cq seq seq _ (Sp.reads HS.out (i := 4) rfl).2.2 (Sp.reads HS.out (i := 4) rfl).2.1 HOWN.out).mono ?_); (rintro e wA42 ⟨vA42, rfl, ho, hb⟩); (refine ⟨_, rfl, ?_⟩); (have HS_ := A0_ (Sp.made' HS.out hb ho)); clear HS; (have HS := HS_); clear HS_; clear hb ho; (obtain ⟨AA42, cA42, rfl⟩ := Sp.slice HS.out (i := 0) rfl)
        refine hK.out _ _ (at_int_ (Sp.reads HS.out (i := 4) rfl).2.2 PX.out QX.out HX1.out) (fun hHeld => ?_)
        clear hK K; (refine norm_ (a' := ?_) ?_ ?_); rotate_left
        ·(show Act.put _ (some 84) _ = _); (simp only [Act.put, sia_, sz_, ss_, i64_w, i32_w]); rfl
        refine one_ (i := 8) (N := some 90) #[tt,tt,tt,tt,tt,tt,tt,tt,tt,ff] rfl rfl (one_of HT_.out (by kernel_rfl)) (by decide) (fun K hK => ?_)
        (obtain ⟨fp_, ho_, hf_, hc_⟩ := Sp.row HS.out (i := 0) rfl)
        refine Kd.R_append_rows_step kI w0.heap.size (by rfl) (.tmp 84) (.tmp 89) 32 2 (.int .i64 0) 8 rfl Tryd.underlying32 info2 rfl (by decide) (by omega) _ seq ([x] : List Int) _ _ _ _ (fun _ => False) rfl rfl ho_ (Sp.reads HS.out (i := 1) rfl).2.2 (fun _ _ h => h) (fun _ h => h.elim) (fun _ h => .inr h) HS.out.below HS.out.below.size ?aL ?_
        ((case aL => have := HND.out.len; simp only [List.length_singleton, List.length_cons, List.length_nil]; omega)); intro vA43 wA43 ho hb hg hat; (have HS_ := A0_ (hc_ _ _ _ ho hg)); clear HS; (have HS := HS_); clear HS_; clear ho hb hg hat ho_ hf_ hc_ fp_; (obtain ⟨AA43, cA43, eA_⟩ := Sp.slice HS.out (i := 0) rfl); subst eA_
        refine hK.out _ _ (at_int_ (Sp.reads HS.out (i := 4) rfl).2.2 PX.out QX.out HX1.out) (fun hHeld => ?_)
        clear hK K; (refine norm_ (a' := ?_) ?_ ?_); rotate_left
        ·(show Act.put _ (some 90) _ = _); (simp only [Act.put, sia_, sz_, ss_, i64_w, i32_w]); rfl
        refine last_ (i := 9) (N := some 91) #[tt,tt,tt,tt,tt,tt,tt,tt,tt,tt] rfl rfl (one_of HT_.out (by kernel_rfl)) (by decide) (fun K hK => ?_)
        (have HS_ := A0_ (Sp.arr (pre := [Res.row kI 2 w0.heap.size (.slice AA43 (seq ++ ([x] : List Int)).length cA43) (seq ++ ([x] : List Int)), Res.row kI 2 w0.heap.size (.slice AA41 (([x] : List Int)).length cA41) (([x] : List Int)), Res.blk g #[.int .i64 C, .int .i64 Q, .slice A rows.length cA, .int .i64 limit, .int .i64 (s'.steps), .slice A5 (s'.found).length c5, .int .i64 most, .bool false] 55, Res.row kL 32 w0.heap.size (.slice A5 (s'.found).length c5) (s'.found), Res.row kI 2 w0.heap.size (.slice (some ado) (L).length cA22) (L), Res.row kI 2 w0.heap.size (.slice Aq seq.length cq) seq]) (pre' := [Res.blk g #[.int .i64 C, .int .i64 Q, .slice A rows.length cA, .int .i64 limit, .int .i64 (s'.steps), .slice A5 (s'.found).length c5, .int .i64 most, .bool false] 55, Res.row kL 32 w0.heap.size (.slice A5 (s'.found).length c5) (s'.found), Res.row kI 2 w0.heap.size (.slice AA43 (seq ++ ([x] : List Int)).length cA43) (seq ++ ([x] : List Int)), Res.row kI 2 w0.heap.size (.slice AA41 (([x] : List Int)).length cA41) (([x] : List Int)), Res.row kI 2 w0.heap.size (.slice (some ado) (L).length cA22) (L), Res.row kI 2 w0.heap.size (.slice Aq seq.length cq) seq]) (rest := rest) [2, 3, 0, 1, 4, 5] HS.out rfl rfl)); clear HS; (have HS := HS_); clear HS_; (refine goes_ Tryd.func75 (by kernel_rfl) rfl #[.pointer (some ⟨g, 0, none⟩), .slice AA43 (seq ++ [x]).length cA43] (by rfl) rfl rfl (by (try simp only [List.map_toArray, List.map_cons, List.map_nil]); first | done | rfl | (simp only [List.length_drop, List.length_take]; rfl)) ?_); (refine (IH.out (seq ++ [x]) s' _ ([Res.row kI 2 w0.heap.size (.slice AA41 (([x] : List Int)).length cA41) (([x] : List Int)), Res.row kI 2 w0.heap.size (.slice (some ado) (L).length cA22) (L), Res.row kI 2 w0.heap.size (.slice Aq seq.length cq) seq] ++ rest) AA43 cA43 A5 c5 HN2.out HOK.out HOV.out HS.out).mono ?_); (rintro e wB ⟨rfl, A6, c6, hs_⟩); (refine ⟨_, rfl, ?_⟩); (have HS_ := A0_ hs_); clear HS hs_; (have HS := HS_); clear HS_; (rw [HR1.out] at HS); (refine hK.out _ _ ?_); clear hK K; (refine norm_ (a' := ?_) ?_ ?_); rotate_left
        ·(show Act.put _ (some 91) _ = _); (simp only [Act.put, sia_, sz_, ss_, i64_w, i32_w]); rfl
        (refine done_ (done_of HT_.out (by kernel_rfl)) ?_); (have HS_ := A0_ (Sp.arr (pre := [Res.blk g #[.int .i64 C, .int .i64 Q, .slice A rows.length cA, .int .i64 limit, .int .i64 (R1.steps), .slice A6 (R1.found).length c6, .int .i64 most, .bool R1.over] 55, Res.row kL 32 w0.heap.size (.slice A6 (R1.found).length c6) (R1.found), Res.row kI 2 w0.heap.size (.slice AA43 (seq ++ ([x] : List Int)).length cA43) (seq ++ ([x] : List Int)), Res.row kI 2 w0.heap.size (.slice AA41 (([x] : List Int)).length cA41) (([x] : List Int)), Res.row kI 2 w0.heap.size (.slice (some ado) (L).length cA22) (L), Res.row kI 2 w0.heap.size (.slice Aq seq.length cq) seq]) (pre' := [Res.row kI 2 w0.heap.size (.slice AA43 (seq ++ ([x] : List Int)).length cA43) (seq ++ ([x] : List Int)), Res.row kI 2 w0.heap.size (.slice AA41 (([x] : List Int)).length cA41) (([x] : List Int)), Res.blk g #[.int .i64 C, .int .i64 Q, .slice A rows.length cA, .int .i64 limit, .int .i64 (R1.steps), .slice A6 (R1.found).length c6, .int .i64 most, .bool R1.over] 55, Res.row kL 32 w0.heap.size (.slice A6 (R1.found).length c6) (R1.found), Res.row kI 2 w0.heap.size (.slice (some ado) (L).length cA22) (L), Res.row kI 2 w0.heap.size (.slice Aq seq.length cq) seq]) (rest := rest) [2, 3, 0, 1, 4, 5] HS.out rfl rfl)); clear HS; (have HS := HS_); clear HS_; (have HS_ := A0_ (Sp.tail (Sp.tail HS.out))); clear HS; (have HS := HS_); clear HS_; (try go_wp2); (go_roundg k1)
        case measure => omega
        case rel => exact ⟨i + 1, R1, A6, c6, (by first | rfl | rw [hwi]), ⟨by have := HX.out; omega, by have := HX.out; omega, by have := HX.out; omega⟩, HOK1, ⟨by rw [show (i + 1).toNat = i.toNat + 1 from by have := HX.out; omega]; exact HR2.out⟩, HS⟩
      ·(have cfb : decide ((s'.found.length : Int) < most) = false := decide_eq_false cf); go_wp2; (repeat (go_quiet (fail); try go_wp2)); (first | go_end0 | ((try simp only [Exit.inBlock, Exit.then]); refine bodyPost_ret (results_none rfl _ _ _) rfl ?_)); (have er : R = s' := by rw [← HR.out]; exact fold_stop' most _ _ s' (.inr (by omega))); subst er; (refine ⟨rfl, A5, c5, ?_⟩); (first | exact Sp.out (Sp.drewN HS.out _) 2 | exact Sp.out (Sp.drew HS.out) 2 | exact Sp.out HS.out 2)
    ·(have cb : decide (i < (L.length : Int)) = false := decide_eq_false c); go_wp2; (repeat (go_quiet (fail); try go_wp2)); (first | go_end0 | ((try simp only [Exit.inBlock, Exit.then]); refine bodyPost_ret (results_none rfl _ _ _) rfl ?_)); (have er : R = s' := by rw [← HR.out, List.drop_eq_nil_of_le (by have := HX.out; omega)]; rfl); subst er; (refine ⟨rfl, A5, c5, ?_⟩); (first | exact Sp.out (Sp.drewN HS.out _) 2 | exact Sp.out (Sp.drew HS.out) 2 | exact Sp.out HS.out 2)
end Go.Proofs.YtoglcgnbkibpgaaDoor.A

/- What the reference answers out of its search for covers, walked: the run, and the counts. -/
namespace Go.Proofs.YtoglcgnbkibpgaaDoor.A
open Go.RowKit Go.Proofs.YtoglcgnbkibpgaaDoorW.PrintWords Go.Proofs.YtoglcgnbkibpgaaDoorW.PrintLast Go.Proofs.YtoglcgnbkibpgaaDoorW.PrintMore Go.Proofs.YtoglcgnbkibpgaaDoorW.Cov Go.Proofs.YtoglcgnbkibpgaaDoorW.Tree
set_option linter.unusedVariables false
set_option linter.unusedSimpArgs false
theorem Sp.root {w w1 w2 : World} {rs : List Res} (h : Sp w1 rs w2) (hb : Below w.heap.size w w1) : Sp w rs w2 := by
  obtain ⟨F, h1, h2, h3⟩ := h.foot
  exact ⟨hb.trans (h.below.mono hb.size), F, h1, h2, fun i k hk => ⟨Nat.le_trans hb.size (h3 i k hk).1, (h3 i k hk).2⟩⟩
def runV (rows : List (List Int)) (Q limit most : Int) : VS (List Int) := visitG (leafC rows Q.toNat) (kidsC rows Q.toNat) limit most Q.toNat [] ⟨0, [], false⟩
/-- The reference's state at its end, and the rows that it has found. -/
abbrev stateR (C Q : Int) (A : Option Addr) (cA : Nat) (rows : List (List Int)) (limit most : Int) (R : VS (List Int)) (base g : Nat) (A4 : Option Addr) (c4 : Nat) : List Res :=
  [Res.blk g #[.int .i64 C, .int .i64 Q, .slice A rows.length cA, .int .i64 limit, .int .i64 R.steps, .slice A4 R.found.length c4, .int .i64 most, .bool R.over] 55, Res.row kL 32 base (.slice A4 R.found.length c4) R.found]
set_option maxHeartbeats 1000000 in
set_option maxRecDepth 100000 in
theorem spec_l14Run.calls' {C Q : Int} {rows : List (List Int)} (h : CovOk C Q rows) (limit most : Int) (hlim : 0 ≤ limit ∧ limit ≤ 20000) (w : World) (A : Option Addr) (cA : Nat) (hR : Kd.C kL w A rows.length rows) (hcA : rows.length ≤ cA) :
    Calls Tryd.prog 48 #[.agg #[.int .i64 C, .int .i64 Q, .slice A rows.length cA], .int .i64 limit, .int .i64 most] w fun e w' => ∃ (g : Nat) (A4 : Option Addr) (c4 : Nat), e = .returned (.pointer (some ⟨g, 0, none⟩)) ∧ Sp w (stateR C Q A cA rows limit most (runV rows Q limit most) w.heap.size g A4 c4) w' := by
  obtain ⟨R, hRe⟩ : ∃ R, R = runV rows Q limit most := ⟨_, rfl⟩
  rw [← hRe]
  have HRE := A0_ hRe
  have HN := A0_ (NodeOk.root rows Q.toNat (by have := h.c60; have := h.qc; omega))
  have HOK := A0_ (show okV limit (⟨0, [], false⟩ : VS (List Int)) from ⟨by decide, by dsimp only; omega, by simp, fun _ => by dsimp only; omega⟩)
  have HS2 := A0_ (show Sp w ([Res.blk (w.heap.size + 1) #[.int .i64 C, .int .i64 Q, .slice A rows.length cA, .int .i64 limit, .int .i64 0, .slice none 0 0, .int .i64 most, .bool false] 55, Res.row kL 32 w.heap.size (.slice none 0 0) []] ++ [])
      ((w.alloc (.cells #[.int .i64 C, .int .i64 Q, .slice A rows.length cA] 28)).alloc (.cells #[.int .i64 C, .int .i64 Q, .slice A rows.length cA, .int .i64 limit, .int .i64 0, .slice none 0 0, .int .i64 most, .bool false] 55)) from by
    have s0 := Sp.alloc (Sp.start w) (.cells #[.int .i64 C, .int .i64 Q, .slice A rows.length cA] 28)
    have s1 := Sp.made s0 (Below.refl _ _) (Kd.R_nil kL 32 _ w.heap.size _)
    have s2 := Sp.box s1 #[.int .i64 C, .int .i64 Q, .slice A rows.length cA, .int .i64 limit, .int .i64 0, .slice none 0 0, .int .i64 most, .bool false] 55
    simpa using s2)
  clear hRe
  go_enter Tryd.func48, Tryd.ntmps48
  go_wp2_with (first
    | ((with_reducible refine gate_dst (N := 14) rfl ?_); refine Kd.R_lit kI _ 2 ?hg (N := 14) ?hd (xs := ([] : List Int)) (inner := []) (ok := fun _ => True) (okp := fun _ => True) ?hr ?hp (fun _ hk => hk) trivial (Below.refl _ _) (Nat.le_refl _) (by simp) ?_; (case hd => rfl); (case hg => rfl); (case hr => first | (go_simp; done) | (go_simp; rfl)); (case hp => exact (Reps.none _ _)); intro v1 w1 ho hb hg_ hnew_; clear hg_ hnew_; have HS3 := A0_ (Sp.made' HS2.out hb ho); clear HS2 hb ho; obtain ⟨Aq, cq, eq_⟩ := Sp.slice HS3.out (i := 0) rfl; subst eq_;
       have HS := A0_ (Sp.arr (pre := [Res.row kI 2 w.heap.size (.slice Aq ([] : List Int).length cq) [], Res.blk (w.heap.size + 1) #[.int .i64 C, .int .i64 Q, .slice A rows.length cA, .int .i64 limit, .int .i64 0, .slice none 0 0, .int .i64 most, .bool false] 55, Res.row kL 32 w.heap.size (.slice none 0 0) []]) (pre' := [Res.blk (w.heap.size + 1) #[.int .i64 C, .int .i64 Q, .slice A rows.length cA, .int .i64 limit, .int .i64 0, .slice none 0 0, .int .i64 most, .bool false] 55, Res.row kL 32 w.heap.size (.slice none 0 0) [], Res.row kI 2 w.heap.size (.slice Aq ([] : List Int).length cq) []]) (rest := []) [1, 2, 0] HS3.out rfl rfl); clear HS3)
    | (go_at_call 75; refine (spec_l14Visit.calls' h limit most hlim w A cA hR hcA (w.heap.size + 1) Q.toNat [] ⟨0, [], false⟩ w1 [] Aq cq none 0 HN.out HOK.out rfl HS.out).mono ?_; rintro e w2 ⟨rfl, A4, c4, hs⟩; have HS4 := A0_ hs; clear hs HS))
  go_ret
  refine ⟨_, A4, c4, rfl, ?_⟩
  have hz := Sp.out HS4.out 2
  rw [HRE.out]
  exact hz
def nodesR (rows : List (List Int)) (Q : Int) : VS (List Int) := runV rows Q 20000 20001
set_option maxHeartbeats 1000000 in
set_option maxRecDepth 100000 in
theorem spec_l14All.bad (k : Nat) (C Q : Int) (rows : List (List Int)) (w : World) (A : Option Addr) (cA : Nat) (hR : Kd.C kL w A rows.length rows) (hcA : rows.length ≤ cA) (hk : spec_IsCover.f k C Q rows = some false) :
    Calls Tryd.prog 42 #[.agg #[.int .i64 C, .int .i64 Q, .slice A rows.length cA]] w fun e w' => e = .returned (.tuple #[.pointer none, .int .i64 1]) ∧ Below w.heap.size w w' := by
  have HK := A0_ hk
  clear hk
  have HB0 := A0_ (below_alloc (Below.refl w.heap.size w) (.cells #[.int .i64 C, .int .i64 Q, .slice A rows.length cA] 28))
  go_enter Tryd.func42, Tryd.ntmps42
  go_wp2_with (first
    | (go_at_call 47; refine (spec_IsCover.calls k C Q A cA rows false _ (Kd.C_below hR HB0.out) hcA HK.out).mono ?_; rintro e w1 ⟨rfl, hb⟩; have HB := A0_ (below_step HB0.out hb); clear hb))
  go_ret2
  exact ⟨rfl, HB.out⟩
set_option maxHeartbeats 1000000 in
set_option maxRecDepth 100000 in
theorem spec_l14All.over (k : Nat) (C Q : Int) (rows : List (List Int)) (h : CovOk C Q rows) (w : World) (A : Option Addr) (cA : Nat) (hR : Kd.C kL w A rows.length rows) (hcA : rows.length ≤ cA) (hk : spec_IsCover.f k C Q rows = some true) (ho : (nodesR rows Q).over = true) :
    Calls Tryd.prog 42 #[.agg #[.int .i64 C, .int .i64 Q, .slice A rows.length cA]] w fun e w' => e = .returned (.tuple #[.pointer none, .int .i64 3]) ∧ Below w.heap.size w w' := by
  have HK := A0_ hk
  have HO := A0_ ho
  clear hk ho
  have HB0 := A0_ (below_alloc (Below.refl w.heap.size w) (.cells #[.int .i64 C, .int .i64 Q, .slice A rows.length cA] 28))
  have hc0 : ∀ j, j < 3 → (w.alloc (.cells #[.int .i64 C, .int .i64 Q, .slice A rows.length cA] 28)).cell? ⟨w.heap.size, j, none⟩ = #[Value.int .i64 C, .int .i64 Q, .slice A rows.length cA][j]? := fun j _ => blk_cell (blk_new w _) j
  have HC0 := A0_ hc0
  clear hc0
  go_enter Tryd.func42, Tryd.ntmps42
  go_wp2_with (first
    | (go_at_call 47; refine (spec_IsCover.calls k C Q A cA rows true _ (Kd.C_below hR HB0.out) hcA HK.out).mono ?_; rintro e w1 ⟨rfl, hb⟩; have HB := A0_ (below_step HB0.out hb); have hq0 := (hb.cell (p := ⟨w.heap.size, 0, none⟩) (by simp)).trans ((HC0.out 0 (by decide)).trans rfl); have hq1 := (hb.cell (p := ⟨w.heap.size, 1, none⟩) (by simp)).trans ((HC0.out 1 (by decide)).trans rfl); have hq2 := (hb.cell (p := ⟨w.heap.size, 2, none⟩) (by simp)).trans ((HC0.out 2 (by decide)).trans rfl); clear hb)
    | (go_at_call 48; refine (spec_l14Run.calls' h 20000 20001 (by decide) w1 A cA (Kd.C_below hR HB.out) hcA).mono ?_; rintro e w2 ⟨g, A4, c4, rfl, hs⟩; have HS := A0_ (Sp.root hs HB.out); have hy7 := (blk_cell (Sp.blk hs (i := 0) rfl).1 7).trans rfl; rw [show (runV rows Q 20000 20001).over = true from HO.out] at hy7; clear hs hq0 hq1 hq2))
  go_ret2
  exact ⟨rfl, HS.out.below⟩
set_option maxHeartbeats 1000000 in
set_option maxRecDepth 100000 in
theorem spec_l14All.good (k : Nat) (C Q : Int) (rows : List (List Int)) (h : CovOk C Q rows) (w : World) (A : Option Addr) (cA : Nat) (hR : Kd.C kL w A rows.length rows) (hcA : rows.length ≤ cA) (hk : spec_IsCover.f k C Q rows = some true) (ho : (nodesR rows Q).over = false) :
    Calls Tryd.prog 42 #[.agg #[.int .i64 C, .int .i64 Q, .slice A rows.length cA]] w fun e w' => ∃ (g : Nat) (A4 : Option Addr) (c4 : Nat), e = .returned (.tuple #[.pointer (some ⟨g, 0, none⟩), .int .i64 0]) ∧ Sp w (stateR C Q A cA rows 20000 20001 (nodesR rows Q) w.heap.size g A4 c4) w' := by
  have HK := A0_ hk
  have HO := A0_ ho
  clear hk ho
  have HB0 := A0_ (below_alloc (Below.refl w.heap.size w) (.cells #[.int .i64 C, .int .i64 Q, .slice A rows.length cA] 28))
  have hc0 : ∀ j, j < 3 → (w.alloc (.cells #[.int .i64 C, .int .i64 Q, .slice A rows.length cA] 28)).cell? ⟨w.heap.size, j, none⟩ = #[Value.int .i64 C, .int .i64 Q, .slice A rows.length cA][j]? := fun j _ => blk_cell (blk_new w _) j
  have HC0 := A0_ hc0
  clear hc0
  go_enter Tryd.func42, Tryd.ntmps42
  go_wp2_with (first
    | (go_at_call 47; refine (spec_IsCover.calls k C Q A cA rows true _ (Kd.C_below hR HB0.out) hcA HK.out).mono ?_; rintro e w1 ⟨rfl, hb⟩; have HB := A0_ (below_step HB0.out hb); have hq0 := (hb.cell (p := ⟨w.heap.size, 0, none⟩) (by simp)).trans ((HC0.out 0 (by decide)).trans rfl); have hq1 := (hb.cell (p := ⟨w.heap.size, 1, none⟩) (by simp)).trans ((HC0.out 1 (by decide)).trans rfl); have hq2 := (hb.cell (p := ⟨w.heap.size, 2, none⟩) (by simp)).trans ((HC0.out 2 (by decide)).trans rfl); clear hb)
    | (go_at_call 48; refine (spec_l14Run.calls' h 20000 20001 (by decide) w1 A cA (Kd.C_below hR HB.out) hcA).mono ?_; rintro e w2 ⟨g, A4, c4, rfl, hs⟩; have HS := A0_ (Sp.root hs HB.out); have hy7 := (blk_cell (Sp.blk hs (i := 0) rfl).1 7).trans rfl; rw [show (runV rows Q 20000 20001).over = false from HO.out] at hy7; clear hs hq0 hq1 hq2))
  go_ret2
  exact ⟨g, A4, c4, rfl, Sp.weak HS.out (i := 1) rfl (fun fp hp => Kd.R_lower hp HB.out.size)⟩
def sizesOk (rows : List (List Int)) : Prop := rows.length ≤ 1048576 ∧ ∀ r ∈ rows, r.length ≤ 1048576
instance (rows : List (List Int)) : Decidable (sizesOk rows) := by unfold sizesOk; exact inferInstance
end Go.Proofs.YtoglcgnbkibpgaaDoor.A

/- Forced rows: the plain words. No program in sight. -/
namespace Go.Proofs.YtoglcgnbkibpgaaDoor.A
open Go.RowKit Go.Proofs.YtoglcgnbkibpgaaDoorW.PrintWords Go.Proofs.YtoglcgnbkibpgaaDoorW.PrintLast Go.Proofs.YtoglcgnbkibpgaaDoorW.PrintMore Go.Proofs.YtoglcgnbkibpgaaDoorW.Cov Go.Proofs.YtoglcgnbkibpgaaDoorW.Tree
set_option linter.unusedVariables false
set_option linter.unusedSimpArgs false
/-- The rows that are in all of some lists. -/
def forcedRows (n : Nat) (found : List (List Int)) : List Int := ((List.range n).filter fun i : Nat => found.all fun s => s.contains (i : Int)).map fun (i : Nat) => (i : Int)
theorem forced_next (n : Nat) (found : List (List Int)) : forcedRows (n + 1) found = forcedRows n found ++ (if (found.all fun s => s.contains (n : Int)) = true then [(n : Int)] else []) := by
  unfold forcedRows
  rw [List.range_succ, List.filter_append, List.map_append]
  congr 1
  simp only [List.filter_cons, List.filter_nil]
  split <;> rfl
theorem forced_len (n : Nat) (found : List (List Int)) : (forcedRows n found).length ≤ n := by
  unfold forcedRows
  rw [List.length_map]
  exact Nat.le_trans (List.length_filter_le _ _) (by simp)
/-- What both IsForced answer. -/
def forcedOut (C Q : Int) (rows : List (List Int)) : List Int × Int := if coverOk C Q rows = true then (if (nodesR rows Q).over = true then ([], 3) else if (nodesR rows Q).found = [] then ([], 4) else (forcedRows rows.length (nodesR rows Q).found, 0)) else ([], 1)
def bumpF (cs : List Int) (j : Int) : List Int := cs.set j.toNat (wrap64 (cs.getD j.toNat 0 + 1))
theorem bumpF_len (cs : List Int) (j : Int) : (bumpF cs j).length = cs.length := by simp [bumpF]
theorem bumpFs_len (seq : List Int) (cs : List Int) : (seq.foldl bumpF cs).length = cs.length := by
  induction seq generalizing cs with
  | nil => rfl
  | cons x seq ih => rw [List.foldl_cons, ih, bumpF_len]
theorem bumpFs_get (seq : List Int) : ∀ (cs : List Int) (m : Nat), (∀ j ∈ seq, 0 ≤ j ∧ j < (cs.length : Int)) → (∀ v ∈ cs, 0 ≤ v ∧ v ≤ (m : Int)) → m + seq.length ≤ 100000000 → (∀ i, i < cs.length → (seq.foldl bumpF cs).getD i 0 = cs.getD i 0 + (seq.count (i : Int) : Int)) ∧ ∀ v ∈ seq.foldl bumpF cs, 0 ≤ v ∧ v ≤ ((m + seq.length : Nat) : Int) := by
  induction seq with
  | nil => intro cs m _ h _; exact ⟨fun i _ => by simp, fun v hv => by simpa using h v hv⟩
  | cons x seq ih =>
    intro cs m hj hv hm
    rw [List.length_cons] at hm
    have hx := hj x (by simp)
    have hxl : x.toNat < cs.length := by omega
    have hg := hv cs[x.toNat] (List.getElem_mem hxl)
    have e : cs.getD x.toNat 0 = cs[x.toNat] := by simp [hxl]
    have ew : wrap64 (cs.getD x.toNat 0 + 1) = cs[x.toNat] + 1 := by rw [e]; unfold wrap64; omega
    have hb : bumpF cs x = cs.set x.toNat (cs[x.toNat] + 1) := by unfold bumpF; rw [ew]
    obtain ⟨h1, h2⟩ := ih (bumpF cs x) (m + 1) (fun j hj' => by rw [bumpF_len]; exact hj j (by simp [hj'])) (fun v hv' => by
      rw [hb] at hv'
      rcases List.mem_or_eq_of_mem_set hv' with h | rfl
      · have := hv v h; omega
      · omega) (by omega)
    refine ⟨fun i hi => ?_, fun v hv' => by have := h2 v hv'; rw [List.length_cons]; omega⟩
    rw [List.foldl_cons, h1 i (by rw [bumpF_len]; exact hi), hb, List.count_cons]
    simp only [List.getD_eq_getElem?_getD, List.getElem?_set]
    by_cases c : x.toNat = i
    · subst c
      have e2 : (x == ((x.toNat : Nat) : Int)) = true := by rw [beq_iff_eq]; omega
      rw [if_pos rfl, if_pos hxl, e2]
      simp [hxl]
      omega
    · have e2 : (x == (i : Int)) = false := by rw [beq_eq_false_iff_ne]; omega
      rw [if_neg c, e2]
      simp
def stepF (a : Int × List Int) (seq : List Int) : (Int × List Int) × Bool := ((wrap64 (a.1 + 1), seq.foldl bumpF a.2), true)
theorem steps_get (m : Nat) (found : List (List Int)) : ∀ (a : Int × List Int) (k : Nat), a.2.length = m → 0 ≤ a.1 → a.1 + found.length ≤ 1000000 → (∀ s ∈ found, s.length ≤ 60 ∧ ∀ j ∈ s, 0 ≤ j ∧ j < (m : Int)) → (∀ v ∈ a.2, 0 ≤ v ∧ v ≤ (k : Int)) → k + 60 * found.length ≤ 10000000 →
    (found.foldl (fun a b => (stepF a b).1) a).1 = a.1 + found.length ∧ (found.foldl (fun a b => (stepF a b).1) a).2.length = m ∧ ∀ i, i < m → (found.foldl (fun a b => (stepF a b).1) a).2.getD i 0 = a.2.getD i 0 + ((found.map fun s => s.count (i : Int)).sum : Nat) := by
  induction found with
  | nil => intro a k h1 h2 h3 h4 h5 h6; exact ⟨by simp, h1, fun i _ => by simp⟩
  | cons s found ih =>
    intro a k h1 h2 h3 h4 h5 h6
    rw [List.length_cons] at h3 h6
    obtain ⟨hs1, hs2⟩ := h4 s (by simp)
    obtain ⟨g1, g2⟩ := bumpFs_get s a.2 k (by rw [h1]; exact hs2) h5 (by omega)
    have e1 : (stepF a s).1.1 = a.1 + 1 := by show wrap64 (a.1 + 1) = a.1 + 1; unfold wrap64; omega
    have e2 : (stepF a s).1.2 = s.foldl bumpF a.2 := rfl
    obtain ⟨i1, i2, i3⟩ := ih (stepF a s).1 (k + 60) (by rw [e2, bumpFs_len, h1]) (by rw [e1]; omega) (by rw [e1]; push_cast at h3; omega) (fun t ht => h4 t (by simp [ht])) (fun v hv => by rw [e2] at hv; have := g2 v hv; omega) (by omega)
    rw [List.foldl_cons]
    refine ⟨by rw [i1, e1, List.length_cons]; push_cast; omega, i2, fun i hi => ?_⟩
    rw [i3 i hi, e2, g1 i (by omega), List.map_cons, List.sum_cons]
    push_cast
    omega
theorem sum_all (f : List (List Int)) (i : Int) (h : ∀ s ∈ f, s.Nodup) : (f.map fun s => s.count i).sum = f.length ↔ (f.all fun s => s.contains i) = true := by
  have hle : ∀ f : List (List Int), (∀ s ∈ f, s.Nodup) → (f.map fun s => s.count i).sum ≤ f.length := by
    intro f h
    induction f with
    | nil => simp
    | cons s f ih =>
      have := ih (fun t ht => h t (by simp [ht]))
      have h1 : s.count i ≤ 1 := List.nodup_iff_count.1 (h s (by simp)) i
      rw [List.map_cons, List.sum_cons, List.length_cons]
      omega
  induction f with
  | nil => simp
  | cons s f ih =>
    have hn : ∀ t ∈ f, t.Nodup := fun t ht => h t (by simp [ht])
    have h0 := hle f hn
    have h1 : s.count i ≤ 1 := List.nodup_iff_count.1 (h s (by simp)) i
    have ih' := ih hn
    rw [List.map_cons, List.sum_cons, List.length_cons, List.all_cons, Bool.and_eq_true, List.contains_iff_mem, ← List.count_pos_iff]
    constructor
    · intro hh
      exact ⟨by omega, ih'.1 (by omega)⟩
    · rintro ⟨h2, h3⟩
      have := ih'.2 h3
      omega
theorem found_nodup {C Q : Int} {rows : List (List Int)} (h : CovOk C Q rows) (limit most : Int) : ∀ x ∈ (runV rows Q limit most).found, x.Nodup ∧ x.length ≤ 60 ∧ ∀ j ∈ x, 0 ≤ j ∧ j < (rows.length : Int) := by
  unfold runV
  refine found_good (leafC rows Q.toNat) (kidsC rows Q.toNat) limit most (fun seq => seq.Nodup ∧ ∃ d, NodeOk rows Q.toNat d seq ∧ seq.length + d ≤ 60) (fun b => b.Nodup ∧ b.length ≤ 60 ∧ ∀ j ∈ b, 0 ≤ j ∧ j < (rows.length : Int)) (fun n b hn hb => ?_) (fun n hn hl m hm => ?_) Q.toNat [] ⟨0, [], false⟩ ⟨List.nodup_nil, _, NodeOk.root rows Q.toNat (by have := h.c60; have := h.qc; omega), by have := h.c60; have := h.qc; simp; omega⟩ (fun b hb => by simp at hb)
  · obtain ⟨h1, d, hd, h2⟩ := hn
    unfold leafC at hb
    split at hb
    · injection hb with hb
      subst hb
      exact ⟨h1, by omega, hd.idx⟩
    · cases hb
  · obtain ⟨h0, d, hd, h2⟩ := hn
    unfold leafC at hl
    split at hl
    · cases hl
    · rename_i hc
      have h1 : 1 ≤ d := by have := uncov_pos (show 0 ≤ colV rows Q.toNat n by omega); have := hd.dep; omega
      obtain ⟨d, rfl⟩ : ∃ d', d = d' + 1 := ⟨d - 1, by omega⟩
      unfold kidsC at hm
      rw [List.mem_map] at hm
      obtain ⟨j, hj, rfl⟩ := hm
      obtain ⟨j0, j1, j2, j3⟩ := openRows_mem hj
      refine ⟨?_, d, NodeOk.next hd (by omega) hj, by simp; omega⟩
      rw [List.nodup_append]
      refine ⟨h0, by simp, ?_⟩
      intro a ha b hb
      simp only [List.mem_singleton] at hb
      subst hb
      rintro rfl
      unfold openR at j3
      rw [List.all_eq_true] at j3
      have h5 := j3 _ (List.contains_iff_mem.1 j2)
      have h6 : cov rows n (colV rows Q.toNat n) = true := by
        unfold cov
        rw [List.any_eq_true]
        exact ⟨a, ha, j2⟩
      rw [h6] at h5
      cases h5
/-- The program's counts tell the forced rows. -/
theorem forced_counts (m : Nat) (found : List (List Int)) (h : ∀ x ∈ found, x.Nodup ∧ x.length ≤ 60 ∧ ∀ j ∈ x, 0 ≤ j ∧ j < (m : Int)) (hl : found.length ≤ 20001) : ∃ cs : List Int, found.foldl (fun a b => (stepF a b).1) (0, List.replicate m 0) = ((found.length : Int), cs) ∧ cs.length = m ∧ ∀ (i : Nat) (hi : i < cs.length), (cs[i] = (found.length : Int)) ↔ (found.all fun s => s.contains (i : Int)) = true := by
  obtain ⟨h1, h2, h3⟩ := steps_get m found (0, List.replicate m 0) 0 (by simp) (by simp) (by dsimp only; omega) (fun s hs => ⟨(h s hs).2.1, (h s hs).2.2⟩) (fun v hv => by simp at hv; omega) (by omega)
  refine ⟨(found.foldl (fun a b => (stepF a b).1) (0, List.replicate m 0)).2, ?_, h2, fun i hi => ?_⟩
  · apply Prod.ext
    · rw [h1]; simp
    · rfl
  · rw [h2] at hi
    have := h3 i hi
    rw [List.getD_eq_getElem?_getD, List.getElem?_eq_getElem (by rw [h2]; exact hi)] at this
    simp only [Option.getD_some] at this
    rw [this, ← sum_all found i (fun s hs => (h s hs).1)]
    have e0 : (List.replicate m (0 : Int)).getD i 0 = 0 := by simp [hi]
    rw [e0]
    omega
end Go.Proofs.YtoglcgnbkibpgaaDoor.A

namespace Go.Proofs.YtoglcgnbkibpgaaDoor.A
open Go.RowKit Go.Proofs.YtoglcgnbkibpgaaDoorW.PrintWords Go.Proofs.YtoglcgnbkibpgaaDoorW.PrintLast Go.Proofs.YtoglcgnbkibpgaaDoorW.PrintMore
attribute [local go_sem] max2_int min2_int max_two min_two max_three min_three max_four min_four   -- for this text's walks alone
set_option linter.unusedVariables false
set_option linter.unusedSimpArgs false
def impl_within.f (a0 : Int) (a1 : Int) (a2 : Int) : Option (Bool) := if a0 ≥ a1 then (some (decide (a0 ≤ a2))) else (some false)
set_option maxHeartbeats 8000000 in
set_option maxRecDepth 100000 in
theorem impl_within.calls (a0 : Int) (a1 : Int) (a2 : Int) (r : Bool) (w : World) (h : impl_within.f a0 a1 a2 = some r) :
    Calls Tryd.prog 76 #[.int .i64 a0, .int .i64 a1, .int .i64 a2] w fun e w' => e = .returned (.bool r) ∧ Drawn0 w w' := by
 (have H : (if a0 ≥ a1 then (some (decide (a0 ≤ a2))) else (some false)) = some r := h); clear h; (by_cases c4 : a0 ≥ a1)
 ·(rw [if_pos c4] at H); (have c4b0 : decide (a1 ≤ a0) = true := decide_eq_true c4); clear c4; (obtain rfl := Option.some.inj H); (go_enter Tryd.func76, Tryd.ntmps76); go_wp2; go_ret; (exact ⟨by first | rfl | (simp; done) | (simp [*]; done), by repeat (first | exact Drawn0.refl _ | apply Drawn0.step)⟩)
 ·(rw [if_neg c4] at H); (have c4b0 : decide (a1 ≤ a0) = false := decide_eq_false c4); clear c4; (obtain rfl := Option.some.inj H); (go_enter Tryd.func76, Tryd.ntmps76); go_wp2; go_ret; (exact ⟨by first | rfl | (simp; done) | (simp [*]; done), by repeat (first | exact Drawn0.refl _ | apply Drawn0.step)⟩)
end Go.Proofs.YtoglcgnbkibpgaaDoor.A

namespace Go.Proofs.YtoglcgnbkibpgaaDoor.A
open Go.RowKit Go.Proofs.YtoglcgnbkibpgaaDoorW.PrintWords Go.Proofs.YtoglcgnbkibpgaaDoorW.PrintLast Go.Proofs.YtoglcgnbkibpgaaDoorW.PrintMore
attribute [local go_sem] max2_int min2_int max_two min_two max_three min_three max_four min_four   -- for this text's walks alone
set_option linter.unusedVariables false
set_option linter.unusedSimpArgs false
def impl_isIncreasing.l0 : Nat → List Int → Int → List Int → Int → Int → Option (Bool)
  | 0, _, _, _, _, _ => none
  | k + 1, x0, x1, x7, x8, x9 => if x9 < x8 then (if 0 ≤ x9 then (if x9 < (x7.length : Int) then ((impl_within.f (rd x7 x9) 0 (wrap64 (x1 - 1))).bind fun t421 => (if t421 = true then (if x9 > 0 then (if 0 ≤ (wrap64 (x9 - 1)) then (if (wrap64 (x9 - 1)) < (x0.length : Int) then (if (rd x7 x9) ≤ (rd x0 (wrap64 (x9 - 1))) then (some false) else (impl_isIncreasing.l0 k x0 x1 x7 x8 (wrap64 (x9 + 1)))) else (none)) else (none)) else (impl_isIncreasing.l0 k x0 x1 x7 x8 (wrap64 (x9 + 1)))) else (some false))) else (none)) else (none)) else (some true)
def impl_isIncreasing.f (k : Nat) (l0 : List Int) (a1 : Int) : Option (Bool) := impl_isIncreasing.l0 k l0 a1 l0 (l0.length : Int) 0
set_option maxHeartbeats 8000000 in
set_option maxRecDepth 100000 in
theorem impl_isIncreasing.calls (k : Nat) (A0 : Option Addr) (c0 : Nat) (l0 : List Int) (a1 : Int) (r : Bool) (w : World) (hr0 : Kd.C (Kd.int .i64) w A0 l0.length l0) (hc0 : l0.length ≤ c0) (h : impl_isIncreasing.f k l0 a1 = some r) :
    Calls Tryd.prog 59 #[.slice A0 l0.length c0, .int .i64 a1] w fun e w' => e = .returned (.bool r) ∧ Drawn0 w w' := by
 (have HR0 := A0_ hr0); (have HC0 := A0_ hc0); clear hr0 hc0; (have H : (impl_isIncreasing.l0 k l0 a1 l0 (l0.length : Int) 0) = some r := h); clear h; (have H' := A0_ H); clear H; (go_enter Tryd.func59, Tryd.ntmps59); go_wp2
 go_loopg [9] k (fun kq v9 w' => ∃ (x9_1 : Int), v9 = .int .i64 x9_1 ∧ Aside0 (impl_isIncreasing.l0 kq l0 a1 l0 (l0.length : Int) x9_1 = some r) ∧ Aside0 (kq ≤ k) ∧ Drawn0 w w')
 case atStart => exact ⟨(0), (by first | rfl | (simp; done) | (simp [*]; done)), H', ⟨Nat.le_refl _⟩, by repeat (first | exact Drawn0.refl _ | apply Drawn0.step)⟩
 case round =>
  clear H'; (try clear p2); (obtain ⟨x9_1, rfl, HA, HK1, ⟨m1, rfl⟩⟩ := hrel)
  cases gk with
  | zero => exact absurd HA.out (by simp [impl_isIncreasing.l0])
  | succ k1 =>
   (have H := HA.out); clear HA; (simp only [impl_isIncreasing.l0] at H); (by_cases c3 : x9_1 < (l0.length : Int))
   ·(rw [if_pos c3] at H); (have c3b0 : decide (x9_1 < (l0.length : Int)) = true := decide_eq_true c3); clear c3; (by_cases c4 : 0 ≤ x9_1)
    ·(rw [if_pos c4] at H); (have c4b0 : decide (0 ≤ x9_1) = true := decide_eq_true c4); clear c4; (by_cases c5 : x9_1 < (l0.length : Int))
     ·(rw [if_pos c5] at H); (have c5b0 : decide (x9_1 < (l0.length : Int)) = true := decide_eq_true c5); clear c5; (replace H := Option.bind_eq_some_iff.mp H); (obtain ⟨t421, A60, H⟩ := H); (try dsimp only at H); (have A6 := A0_ A60); clear A60; (have H0_ := A0_ H); clear H; (have p420 : 0 ≤ (x9_1 : Int) := of_decide_eq_true (by first | (with_reducible assumption) | assumption)); (have q420 : x9_1 < (l0.length : Int) := of_decide_eq_true (by first | (with_reducible assumption) | assumption)); (obtain ⟨ad420, e420, hx420_0⟩ := Kd.at_int HR0.out x9_1 p420 q420); (cases e420); (replace p420 := eq_true p420); (replace q420 := eq_true q420); (go_wp2_with (first | ((with_reducible refine gate_callee (f := 76) rfl ?_); refine goesL_ (some 17) rfl rfl Tryd.func76 (by kernel_rfl) rfl #[.int .i64 (rd l0 x9_1), .int .i64 0, .int .i64 (wrap64 (a1 - 1))] rfl (by (try simp only [List.map_toArray, List.map_cons, List.map_nil]); first | done | rfl | (simp only [List.length_drop, List.length_take]; rfl)) ?_; (with_reducible refine (impl_within.calls (rd l0 x9_1) 0 (wrap64 (a1 - 1)) t421 _ A6.out).mono ?_); rintro e w' ⟨rfl, ⟨nd, rfl⟩⟩; refine ⟨_, rfl, ?_⟩; refine Stop0.out ?_))); (refine Stop0.mk ?_); (have H := H0_.out); clear H0_; (by_cases c7 : t421 = true)
      ·subst c7; (have H1 := H); (rw [if_pos rfl] at H1); clear H; (have H := H1); clear H1; (by_cases c8 : x9_1 > 0)
       ·(rw [if_pos c8] at H); (have c8b0 : decide (0 < x9_1) = true := decide_eq_true c8); clear c8; (obtain ⟨ji9, hji9⟩ : ∃ j_ : Int, (wrap64 (x9_1 - 1)) = j_ := ⟨_, rfl⟩); (replace H : (if 0 ≤ (ji9) then (if (ji9) < (l0.length : Int) then (if (rd l0 x9_1) ≤ (rd l0 (ji9)) then (some false) else (impl_isIncreasing.l0 k1 l0 a1 l0 (l0.length : Int) (wrap64 (x9_1 + 1)))) else (none)) else (none)) = some r := by first | (rw [hji9] at H; exact H) | (simp only [hji9] at H ⊢; exact H)); (have hji9w : (IntKind.i64.wrap (x9_1 - 1)) = ji9 := (i64_w _).trans hji9); (by_cases c10 : 0 ≤ (ji9))
        ·(rw [if_pos c10] at H); (have c10b0 : decide (0 ≤ (ji9)) = true := decide_eq_true c10); clear c10; (by_cases c11 : (ji9) < (l0.length : Int))
         ·(rw [if_pos c11] at H); (have c11b0 : decide ((ji9) < (l0.length : Int)) = true := decide_eq_true c11); clear c11; (by_cases c12 : (rd l0 x9_1) ≤ (rd l0 (ji9)))
          ·(rw [if_pos c12] at H); (have c12b0 : decide ((rd l0 x9_1) ≤ (rd l0 (ji9))) = true := decide_eq_true c12); clear c12; (obtain rfl := Option.some.inj H); (have p422 : 0 ≤ ((ji9) : Int) := of_decide_eq_true (by first | (with_reducible assumption) | assumption)); (have q422 : (ji9) < (l0.length : Int) := of_decide_eq_true (by first | (with_reducible assumption) | assumption)); (obtain ⟨ad422, e422, hx422_0⟩ := Kd.at_int HR0.out (ji9) p422 q422); (cases e422); (replace p422 := eq_true p422); (replace q422 := eq_true q422); go_wp2; go_ret; (exact ⟨by first | rfl | (simp; done) | (simp only [← hji9] <;> (first | rfl | simp)) | (simp [*]; done), by repeat (first | exact Drawn0.refl _ | apply Drawn0.step)⟩)
          ·(rw [if_neg c12] at H); (have c12b0 : decide ((rd l0 x9_1) ≤ (rd l0 (ji9))) = false := decide_eq_false c12); clear c12; (have H' := A0_ H); clear H; (have p422 : 0 ≤ ((ji9) : Int) := of_decide_eq_true (by first | (with_reducible assumption) | assumption)); (have q422 : (ji9) < (l0.length : Int) := of_decide_eq_true (by first | (with_reducible assumption) | assumption)); (obtain ⟨ad422, e422, hx422_0⟩ := Kd.at_int HR0.out (ji9) p422 q422); (cases e422); (replace p422 := eq_true p422); (replace q422 := eq_true q422); go_wp2; (go_roundg k1)
           case measure => have := HK1.out; omega
           case rel => exact ⟨(wrap64 (x9_1 + 1)), (by first | rfl | (simp; done) | (simp [*]; done)), H', ⟨by have := HK1.out; omega⟩, by repeat (first | exact Drawn0.refl _ | apply Drawn0.step)⟩
         ·(rw [if_neg c11] at H); (exact absurd H (by simp))
        ·(rw [if_neg c10] at H); (exact absurd H (by simp))
       ·(rw [if_neg c8] at H); (have c8b0 : decide (0 < x9_1) = false := decide_eq_false c8); clear c8; (have H' := A0_ H); clear H; go_wp2; (go_roundg k1)
        case measure => have := HK1.out; omega
        case rel => exact ⟨(wrap64 (x9_1 + 1)), (by first | rfl | (simp; done) | (simp [*]; done)), H', ⟨by have := HK1.out; omega⟩, by repeat (first | exact Drawn0.refl _ | apply Drawn0.step)⟩
      ·(replace c7 := Bool.eq_false_iff.mpr c7); subst c7; (have H1 : (some false) = some r := by rw [if_neg (show ¬ (false = true) by decide)] at H; exact H); clear H; (have H := H1); clear H1; (obtain rfl := Option.some.inj H); go_wp2; go_ret; (exact ⟨by first | rfl | (simp; done) | (simp [*]; done), by repeat (first | exact Drawn0.refl _ | apply Drawn0.step)⟩)
     ·(rw [if_neg c5] at H); (exact absurd H (by simp))
    ·(rw [if_neg c4] at H); (exact absurd H (by simp))
   ·(rw [if_neg c3] at H); (have c3b0 : decide (x9_1 < (l0.length : Int)) = false := decide_eq_false c3); clear c3; (obtain rfl := Option.some.inj H); go_wp2; go_ret; (exact ⟨by first | rfl | (simp; done) | (simp [*]; done), by repeat (first | exact Drawn0.refl _ | apply Drawn0.step)⟩)
end Go.Proofs.YtoglcgnbkibpgaaDoor.A

/- impl.IsCover: the program's guard, in plain words and walked (slices.ContainsFunc over a function literal that holds the instance). -/
namespace Go.Proofs.YtoglcgnbkibpgaaDoor.A
open Go.RowKit Go.Proofs.YtoglcgnbkibpgaaDoorW.PrintWords Go.Proofs.YtoglcgnbkibpgaaDoorW.PrintLast Go.Proofs.YtoglcgnbkibpgaaDoorW.PrintMore Go.Proofs.YtoglcgnbkibpgaaDoorW.Cov
set_option linter.unusedVariables false
set_option linter.unusedSimpArgs false
theorem within_eq (a b c : Int) : impl_within.f a b c = some (inB a b c) := by
  unfold impl_within.f inB
  by_cases h : a ≥ b
  · rw [if_pos h]; simp; omega
  · rw [if_neg h]; simp; omega
theorem isInc_ev (r : List Int) (c : Int) (h : r.length ≤ 1048576) (h0 : -1 ≤ c) (h1 : c ≤ 1048576) : Ev (fun k => impl_isIncreasing.f k r c) (risesF c none r) := by
  unfold impl_isIncreasing.f
  have := ev_listI r (fun (s : Option Int) j => s = if j = 0 then none else r[j - 1]?) (fun _ i k => impl_isIncreasing.l0 k r c r (r.length : Int) i) (fun s l => risesF c s l) (fun s hi => ?_) (fun s j hj hi ih => ?_) r.length 0 none (by omega) rfl
  · simpa using this
  · exact Ev.step (f := fun _ => some true) (fun k => by simp only [impl_isIncreasing.l0]; rw [if_neg (by omega)]) (Ev.now _)
  · have e1 : wrap64 (c - 1) = c - 1 := by unfold wrap64; omega
    have hn := ih (some r[j]) (by rw [if_neg (by omega)]; simp [hj])
    refine Ev.succ ?_
    simp only [impl_isIncreasing.l0, show (j : Int) < (r.length : Int) from by omega, show (0 : Int) ≤ (j : Int) from by omega, if_true, rd_nat r j hj, e1, within_eq, Option.bind_some, wrap_succ j (by omega)]
    unfold risesF
    cases hb : inB r[j] 0 (c - 1) with
    | false => simpa using Ev.now false
    | true =>
      simp only [if_true, Bool.true_and]
      by_cases hz : j = 0
      · subst hz
        rw [hi, if_pos rfl]
        simpa using hn
      · rw [if_neg hz] at hi
        have hj1 : j - 1 < r.length := by omega
        have hs : s = some r[j - 1] := by rw [hi]; simp [hj1]
        have ew : wrap64 ((j : Int) - 1) = ((j - 1 : Nat) : Int) := by unfold wrap64; omega
        simp only [show (j : Int) > 0 from by omega, if_true, ew, show (0 : Int) ≤ ((j - 1 : Nat) : Int) from by omega, show ((j - 1 : Nat) : Int) < (r.length : Int) from by omega, rd_nat r (j - 1) hj1]
        rw [hs]
        by_cases hc : r[j] ≤ r[j - 1]
        · simp only [hc, if_true, decide_eq_false (show ¬ r[j - 1] < r[j] from by omega), Bool.false_and]
          exact Ev.now false
        · simp only [hc, if_false, decide_eq_true (show r[j - 1] < r[j] from by omega), Bool.true_and]
          exact hn
/-- The literal: is a row none of an instance's? -/
theorem impl_IsCover.lit (C : Int) (hC : inB C 1 60 = true) (r : List Int) (hz : r.length ≤ 1048576) (g : Nat) (x1 x2 : Value) (A : Option Addr) (c : Nat) (w : World) (hR : kI.C w A r.length r) (hc : r.length ≤ c) (hcell : w.cell? ⟨g, 0, none⟩ = some (.int .i64 C)) :
    Calls Tryd.prog 78 #[.slice A r.length c, .pointer (some ⟨g, 0, none⟩)] w fun e w' => e = .returned (.bool (!rowOk C r)) ∧ Below w.heap.size w w' := by
  obtain ⟨K, hK⟩ := (isInc_ev r C hz (by have := (inB_iff _ _ _).1 hC; omega) (by have := (inB_iff _ _ _).1 hC; omega)).rounds
  have HK := A0_ hK
  have HR := A0_ hR
  clear hR hK
  by_cases e : r.length = 0
  · obtain rfl := List.length_eq_zero_iff.1 e
    have he : rowOk C [] = false := rfl
    rw [he]
    go_enter Tryd.func78, Tryd.ntmps78
    go_wp2
    go_ret
    exact ⟨rfl, Below.refl _ _⟩
  · have he : rowOk C r = risesF C none r := by
      unfold rowOk
      cases r with
      | nil => simp at e
      | cons x xs => simp
    rw [he]
    have e0 : (((r.length : Nat) : Int) == 0) = false := by rw [beq_eq_false_iff_ne]; omega
    clear he e
    go_enter Tryd.func78, Tryd.ntmps78
    go_wp2_with (first
      | (go_at_call 59; refine (impl_isIncreasing.calls K A c r C (risesF C none r) _ HR.out hc HK.out).mono ?_; rintro e w1 ⟨rfl, hb⟩; have HB := A0_ hb.below; clear hb))
    go_ret
    exact ⟨rfl, HB.out⟩
set_option maxHeartbeats 1000000 in
set_option maxRecDepth 100000 in
theorem impl_IsCover.index (C : Int) (hC : inB C 1 60 = true) (rows : List (List Int)) (hl : rows.length ≤ 1048576) (hz : ∀ r ∈ rows, r.length ≤ 1048576) (g : Nat) (A0 : Option Addr) (c0 : Nat) (w : World) (hr0 : kL.C w A0 rows.length rows) (hcell : w.cell? ⟨g, 0, none⟩ = some (.int .i64 C)) :
    Calls Tryd.prog 88 #[.slice A0 rows.length c0, .func (.func 78) #[] #[.pointer (some ⟨g, 0, none⟩)]] w fun e w' => ∃ r : Int, e = .returned (.int .i64 r) ∧ decide (0 ≤ r) = !(rows.all (rowOk C)) ∧ Below w.heap.size w w' := by
  have HR0 := Aside0.mk hr0
  have HL := Aside0.mk hl
  have HC0 := Aside0.mk hcell
  have HCC := Aside0.mk hC
  clear hr0 hcell hl hC
  go_enter Tryd.func88, Tryd.ntmps88
  go_wp2
  go_loopg [8] (rows.length + 1) (fun kq v8 w' => ∃ x : Int, v8 = .int .i64 x ∧ Aside0 (0 ≤ x ∧ x ≤ rows.length ∧ kq + x.toNat = rows.length + 1 ∧ (rows.take x.toNat).all (rowOk C) = true) ∧ Aside0 (Below w.heap.size w w'))
  case atStart => exact ⟨0, rfl, ⟨by omega, by omega, by simp, by simp⟩, ⟨Below.refl _ _⟩⟩
  case round =>
    obtain ⟨x, rfl, HX, HB⟩ := hrel
    obtain ⟨h0, h1, h2, h3⟩ := HX.out
    by_cases c : x < (rows.length : Int)
    · have c0 : decide (x < (rows.length : Int)) = true := decide_eq_true c
      have c1 : (0 ≤ x) = True := eq_true h0
      have hlt : x.toNat < rows.length := by omega
      obtain ⟨ad, Ar, cr, e, hx0, hx1, hx2⟩ := at_L1 HR0.out x h0 c
      cases e
      replace hx0 := pw_cell_below HB.out hx0
      have HXR := Aside0.mk (Kd.C_below hx2 HB.out)
      have HXC := Aside0.mk hx1
      have e : rd_L1 rows x = rows[x.toNat] := by unfold rd_L1; simp [hlt]
      have HE := Aside0.mk e
      have HZ := Aside0.mk (show (rd_L1 rows x).length ≤ 1048576 from e ▸ hz _ (List.getElem_mem hlt))
      have HCE := Aside0.mk (pw_cell_below HB.out HC0.out)
      obtain ⟨k1, rfl⟩ : ∃ k1, gk = k1 + 1 := ⟨gk - 1, by omega⟩
      have hw : wrap64 (x + 1) = x + 1 := by have := HL.out; unfold wrap64; omega
      have HW := Aside0.mk hw
      clear hw hx1 hx2 e
      have HN := Aside0.mk h3
      have HT := Aside0.mk h2
      have c2 := eq_true c
      clear h3 h2 HX c
      go_wp2_with (go_at_call 78; refine (impl_IsCover.lit C HCC.out (rd_L1 rows x) HZ.out g (.bool true) (.bool true) Ar cr _ HXR.out HXC.out HCE.out).mono ?_; rintro e w' ⟨rfl, hb⟩)
      · go_ret
        refine ⟨x, rfl, ?_, below_step HB.out hb⟩
        rw [decide_eq_true h0]
        refine Eq.symm ?_
        rw [Bool.not_eq_true', Bool.eq_false_iff]
        intro ha
        have := List.all_eq_true.1 ha rows[x.toNat] (List.getElem_mem hlt)
        rw [← HE.out] at this
        simp_all
      · go_roundg k1
        case measure => omega
        case rel =>
          refine ⟨_, rfl, ⟨?_⟩, ⟨below_step HB.out hb⟩⟩
          rw [HW.out]
          have e2 : (x + 1).toNat = x.toNat + 1 := by omega
          have hp : rowOk C (rd_L1 rows x) = true := by simp_all
          refine ⟨by omega, by omega, by have := HT.out; omega, ?_⟩
          rw [e2, List.take_succ_eq_append_getElem hlt, List.all_append, HN.out, ← HE.out, List.all_cons, hp]
          rfl
    · have c0 : decide (x < (rows.length : Int)) = false := decide_eq_false c
      have hx := Aside0.mk (show x = (rows.length : Int) by omega)
      have HN := Aside0.mk h3
      clear h3 h2 HX c
      go_wp2
      go_ret
      refine ⟨-1, rfl, ?_, HB.out⟩
      have := HN.out
      rw [hx.out, Int.toNat_natCast, List.take_length] at this
      rw [this]
      rfl
set_option maxHeartbeats 400000 in
theorem impl_IsCover.contains (C : Int) (hC : inB C 1 60 = true) (rows : List (List Int)) (hl : rows.length ≤ 1048576) (hz : ∀ r ∈ rows, r.length ≤ 1048576) (g : Nat) (A0 : Option Addr) (c0 : Nat) (w : World) (hr0 : kL.C w A0 rows.length rows) (hcell : w.cell? ⟨g, 0, none⟩ = some (.int .i64 C)) :
    Calls Tryd.prog 77 #[.slice A0 rows.length c0, .func (.func 78) #[] #[.pointer (some ⟨g, 0, none⟩)]] w fun e w' => e = .returned (.bool (!(rows.all (rowOk C)))) ∧ Below w.heap.size w w' := by
  have HR0 := Aside0.mk hr0
  have HC0 := Aside0.mk hcell
  clear hr0 hcell
  go_enter Tryd.func77, Tryd.ntmps77
  go_wp2_with (go_at_call 88; refine (impl_IsCover.index C hC rows hl hz g _ _ _ HR0.out HC0.out).mono ?_; rintro e w' ⟨r, rfl, hr, hb⟩; have HR := Aside0.mk hr; clear hr)
  go_ret
  exact ⟨by rw [← HR.out]; rfl, hb⟩
/-- The program's guard is the reference's. -/
def impl_IsCover.f (k : Nat) (C Q : Int) (rows : List (List Int)) : Option Bool := if sizesOk rows then some (coverOk C Q rows) else none
set_option maxHeartbeats 1000000 in
set_option maxRecDepth 100000 in
theorem impl_IsCover.calls (k : Nat) (C Q : Int) (A : Option Addr) (c : Nat) (rows : List (List Int)) (r : Bool) (w : World) (hR : kL.C w A rows.length rows) (hc : rows.length ≤ c) (h : impl_IsCover.f k C Q rows = some r) :
    Calls Tryd.prog 49 #[.agg #[.int .i64 C, .int .i64 Q, .slice A rows.length c]] w fun e w' => e = .returned (.bool r) ∧ Below w.heap.size w w' := by
  unfold impl_IsCover.f at h
  split at h
  case isFalse => cases h
  rename_i hz
  obtain rfl := Option.some.inj h
  clear h
  have HZ := A0_ hz
  clear hz
  have HB0 := A0_ (below_alloc (Below.refl w.heap.size w) (.cells #[.int .i64 C, .int .i64 Q, .slice A rows.length c] 28))
  have hc0 : ∀ j, j < 3 → (w.alloc (.cells #[.int .i64 C, .int .i64 Q, .slice A rows.length c] 28)).cell? ⟨w.heap.size, j, none⟩ = #[Value.int .i64 C, .int .i64 Q, .slice A rows.length c][j]? := fun j _ => blk_cell (blk_new w _) j
  have HC0 := A0_ hc0
  clear hc0
  have HR := A0_ (Kd.C_below hR HB0.out)
  clear hR
  unfold coverOk
  obtain ⟨K, hK⟩ : ∃ K, K = 0 := ⟨0, rfl⟩
  have hw1 : ∀ w', Drawn0 w' w' := fun _ => Drawn0.refl _
  clear hw1 hK
  by_cases c1 : inB C 1 60 = true
  · have C1 := A0_ c1
    have e1 := c1
    by_cases c2 : inB Q 1 C = true
    · have e2 := c2
      rw [c1, c2]
      clear c1 c2
      have E1 := A0_ e1
      have E2 := A0_ e2
      clear e1 e2
      by_cases c3 : rows.length ≤ 400
      · rw [decide_eq_true c3]
        have c3' : decide ((400 : Int) < (rows.length : Int)) = false := decide_eq_false (by omega)
        clear c3
        go_enter Tryd.func49, Tryd.ntmps49
        go_wp2_with (first
          | (go_at_call 76; refine (impl_within.calls _ _ _ _ _ (within_eq _ _ _)).mono ?_; (first | rw [E1.out] | rw [E2.out]); rintro e w1 ⟨rfl, ⟨m, rfl⟩⟩)
          | (go_at_call 77; refine (impl_IsCover.contains C C1.out rows HZ.out.1 HZ.out.2 w.heap.size A c _ ?ra ?rb).mono ?_; (case ra => exact Kd.C_below HR.out (by repeat (first | exact Below.refl _ _ | refine pw_below_drewN ?_ _))); (case rb => exact pw_cell_below (by repeat (first | exact Below.refl _ _ | refine pw_below_drewN ?_ _)) (HC0.out 0 (by decide))); rintro e w1 ⟨rfl, hb⟩; have HB := A0_ hb; clear hb))
        go_ret
        exact ⟨by simp, below_step (by repeat (first | exact HB0.out | refine pw_below_drewN ?_ _)) HB.out⟩
      · rw [decide_eq_false c3]
        have c3' : decide ((400 : Int) < (rows.length : Int)) = true := decide_eq_true (by omega)
        clear c3
        go_enter Tryd.func49, Tryd.ntmps49
        go_wp2_with (first
          | (go_at_call 76; refine (impl_within.calls _ _ _ _ _ (within_eq _ _ _)).mono ?_; (first | rw [E1.out] | rw [E2.out]); rintro e w1 ⟨rfl, ⟨m, rfl⟩⟩)
          | (go_at_call 77; refine (impl_IsCover.contains C C1.out rows HZ.out.1 HZ.out.2 w.heap.size A c _ ?ra ?rb).mono ?_; (case ra => exact Kd.C_below HR.out (by repeat (first | exact Below.refl _ _ | refine pw_below_drewN ?_ _))); (case rb => exact pw_cell_below (by repeat (first | exact Below.refl _ _ | refine pw_below_drewN ?_ _)) (HC0.out 0 (by decide))); rintro e w1 ⟨rfl, hb⟩; have HB := A0_ hb; clear hb))
        go_ret
        exact ⟨by simp, by repeat (first | exact HB0.out | refine pw_below_drewN ?_ _)⟩
    · have e2 := Bool.eq_false_iff.2 c2
      rw [c1, Bool.eq_false_iff.2 c2]
      clear c1 c2
      have E1 := A0_ e1
      have E2 := A0_ e2
      clear e1 e2
      go_enter Tryd.func49, Tryd.ntmps49
      go_wp2_with (first
        | (go_at_call 76; refine (impl_within.calls _ _ _ _ _ (within_eq _ _ _)).mono ?_; (first | rw [E1.out] | rw [E2.out]); rintro e w1 ⟨rfl, ⟨m, rfl⟩⟩)
        | (go_at_call 77; refine (impl_IsCover.contains C C1.out rows HZ.out.1 HZ.out.2 w.heap.size A c _ ?ra ?rb).mono ?_; (case ra => exact Kd.C_below HR.out (by repeat (first | exact Below.refl _ _ | refine pw_below_drewN ?_ _))); (case rb => exact pw_cell_below (by repeat (first | exact Below.refl _ _ | refine pw_below_drewN ?_ _)) (HC0.out 0 (by decide))); rintro e w1 ⟨rfl, hb⟩; have HB := A0_ hb; clear hb))
      go_ret
      exact ⟨by simp, by repeat (first | exact HB0.out | refine pw_below_drewN ?_ _)⟩
  · have e1 := Bool.eq_false_iff.2 c1
    rw [Bool.eq_false_iff.2 c1]
    clear c1
    have E1 := A0_ e1
    have E2 := A0_ e1
    clear e1
    go_enter Tryd.func49, Tryd.ntmps49
    go_wp2_with (first
      | (go_at_call 76; refine (impl_within.calls _ _ _ _ _ (within_eq _ _ _)).mono ?_; (first | rw [E1.out] | rw [E2.out]); rintro e w1 ⟨rfl, ⟨m, rfl⟩⟩)
      | (go_at_call 77; refine (impl_IsCover.contains C C1.out rows HZ.out.1 HZ.out.2 w.heap.size A c _ ?ra ?rb).mono ?_; (case ra => exact Kd.C_below HR.out (by repeat (first | exact Below.refl _ _ | refine pw_below_drewN ?_ _))); (case rb => exact pw_cell_below (by repeat (first | exact Below.refl _ _ | refine pw_below_drewN ?_ _)) (HC0.out 0 (by decide))); rintro e w1 ⟨rfl, hb⟩; have HB := A0_ hb; clear hb))
    go_ret
    exact ⟨by simp, by repeat (first | exact HB0.out | refine pw_below_drewN ?_ _)⟩
end Go.Proofs.YtoglcgnbkibpgaaDoor.A

/- math/bits.TrailingZeros64, as the program calls it: the table lies in the program's first variable. -/
namespace Go.Proofs.YtoglcgnbkibpgaaDoor.A
open Go.RowKit
set_option linter.unusedVariables false
set_option maxHeartbeats 1000000 in
theorem tz_core (x k idx : Nat) (w : World) (hx0 : ((x : Int) == 0) = false)
    (key : IntKind.u64.wrap (bits BinOp.and IntKind.u64 (x : Int) (IntKind.u64.wrap (-(x : Int))) * 285870213051353865) / 288230376151711744 = (idx : Int))
    (hi : idx < 64) (hk : k < 64) (hcell : w.cell? ⟨0, idx, none⟩ = some (.int .u8 k)) :
    Calls Tryd.prog 83 #[.int .u64 x] w fun e w' => e = .returned (.int .i64 k) ∧ w' = w := by
  go_enter Tryd.func83, Tryd.ntmps83
  go_wp2_with (simp only [key])
  go_ret
  exact ⟨rfl, rfl⟩
theorem tz_calls (x : Nat) (hx : x < 18446744073709551616) (hx0 : x ≠ 0) (w : World) (hT : TabAt 0 Lib.deBruijn64tab w) :
    Calls Tryd.prog 83 #[.int .u64 x] w fun e w' => e = .returned (.int .i64 (Lib.ctz 64 x : Nat)) ∧ w' = w := by
  obtain ⟨hlow, hk⟩ := Lib.lowest_bit 64 x hx0 hx
  obtain ⟨hi, htab⟩ := Lib.deBruijn64_at _ hk
  have hcell := hT _ hi
  rw [htab] at hcell
  exact tz_core x _ _ w (by simp; omega) (tz64_key x _ hx hx0 hlow) hi hk hcell
end Go.Proofs.YtoglcgnbkibpgaaDoor.A

/- Words of 64 bits as the program's search uses them: no program in sight but the types' numbers. -/
namespace Go.Proofs.YtoglcgnbkibpgaaDoor.A
open Go.RowKit Go.Proofs.YtoglcgnbkibpgaaDoorW.PrintWords Go.Proofs.YtoglcgnbkibpgaaDoorW.PrintLast Go.Proofs.YtoglcgnbkibpgaaDoorW.PrintMore Go.Proofs.YtoglcgnbkibpgaaDoorW.Cov
set_option linter.unusedVariables false
abbrev kU : Kd Int := Kd.int .u64
theorem info62 : (Tryd.prog.info? 62).map (fun i => (i.zero, i.size, i.bytes)) = some (some (.int .u64 0), 1, 8) := by kernel_rfl
theorem two64 : (2 : Nat) ^ 64 = 18446744073709551616 := by decide
theorem shl1 (q : Int) (h0 : 0 ≤ q) (h1 : q < 64) : IntKind.u64.wrap (2 ^ min (IntKind.u64.wrap q).toNat 64) = ((2 ^ q.toNat : Nat) : Int) := by
  have e : IntKind.u64.wrap q = q := by rw [IntKind.wrap_u64]; omega
  have hq : q.toNat < 64 := by omega
  have hp : 2 ^ q.toNat < 2 ^ 64 := Nat.pow_lt_pow_right (by decide) hq
  rw [two64] at hp
  rw [e, IntKind.wrap_u64, Nat.min_eq_left (by omega), show ((2 : Int) ^ q.toNat) = ((2 ^ q.toNat : Nat) : Int) from by simp]
  generalize 2 ^ q.toNat = x at *
  omega
theorem req1 (q : Int) (h0 : 0 ≤ q) (h1 : q < 64) : IntKind.u64.wrap (IntKind.u64.wrap (2 ^ min (IntKind.u64.wrap q).toNat 64) - 1) = ((2 ^ q.toNat - 1 : Nat) : Int) := by
  rw [shl1 q h0 h1, IntKind.wrap_u64]
  have hq : q.toNat < 64 := by omega
  have hp : 2 ^ q.toNat < 2 ^ 64 := Nat.pow_lt_pow_right (by decide) hq
  have hz : 0 < 2 ^ q.toNat := Nat.two_pow_pos _
  rw [two64] at hp
  generalize 2 ^ q.toNat = x at *
  omega
theorem shl1' (q : Int) (h0 : 0 ≤ q) (h1 : q < 64) : IntKind.u64.wrap (2 ^ q.toNat) = ((2 ^ q.toNat : Nat) : Int) := by
  have := shl1 q h0 h1
  have e : IntKind.u64.wrap q = q := by rw [IntKind.wrap_u64]; omega
  rwa [e, Nat.min_eq_left (by omega)] at this
theorem or_next (m : Nat) (k : Int) (hm : m < 2 ^ 60) (h0 : 0 ≤ k) (h1 : k < 60) : bits .or .u64 (m : Int) (IntKind.u64.wrap (2 ^ k.toNat)) = ((m ||| 2 ^ k.toNat : Nat) : Int) ∧ m ||| 2 ^ k.toNat < 2 ^ 60 := by
  have hk : k.toNat < 60 := by omega
  have hp : 2 ^ k.toNat < 2 ^ 60 := Nat.pow_lt_pow_right (by decide) hk
  have : (2 : Nat) ^ 60 < 18446744073709551616 := by decide
  refine ⟨?_, Nat.or_lt_two_pow hm hp⟩
  rw [shl1' k h0 (by omega), u64_or_nat _ _ (by omega) (by omega)]
/-- The masks of the rows, as the program holds them. -/
def masksI (rows : List (List Int)) : List Int := rows.map fun r => ((maskOf r : Nat) : Int)
end Go.Proofs.YtoglcgnbkibpgaaDoor.A

/- impl.newCoverSearch, walked: the program's state with the masks of the rows. -/
namespace Go.Proofs.YtoglcgnbkibpgaaDoor.A
open Go.RowKit Go.Proofs.YtoglcgnbkibpgaaDoorW.PrintWords Go.Proofs.YtoglcgnbkibpgaaDoorW.PrintLast Go.Proofs.YtoglcgnbkibpgaaDoorW.PrintMore Go.Proofs.YtoglcgnbkibpgaaDoorW.Cov Go.Proofs.YtoglcgnbkibpgaaDoorW.Tree
set_option linter.unusedVariables false
set_option linter.unusedSimpArgs false
theorem masks_len (rows : List (List Int)) : (masksI rows).length = rows.length := by simp [masksI]
theorem masks_next (rows : List (List Int)) (i : Nat) (h : i < rows.length) : (masksI rows).take (i + 1) = (masksI rows).take i ++ [((maskOf rows[i] : Nat) : Int)] := by
  have : i < (masksI rows).length := by rw [masks_len]; exact h
  rw [List.take_succ_eq_append_getElem this]
  congr 2
  simp [masksI]
theorem mask_next (r : List Int) (j : Nat) (h : j < r.length) : maskOf (r.take (j + 1)) = maskOf (r.take j) ||| 2 ^ (r[j]).toNat := by
  unfold maskOf
  rw [List.take_succ_eq_append_getElem h, List.foldl_append]
  rfl
set_option maxHeartbeats 2000000 in
set_option maxRecDepth 100000 in
theorem impl_newCoverSearch.calls' {C Q : Int} {rows : List (List Int)} (h : CovOk C Q rows) (w0 : World) (A : Option Addr) (cA : Nat) (hR : Kd.C kL w0 A rows.length rows) (hcA : rows.length ≤ cA) (fn : Nat) (caps : Array Value) (rest : List Res) (w : World) (hs : Sp w0 rest w) :
    Calls Tryd.prog 50 #[.agg #[.int .i64 C, .int .i64 Q, .slice A rows.length cA], .func (.func fn) #[] caps] w fun e w' => ∃ (g : Nat) (Am : Option Addr) (cm : Nat), e = .returned (.pointer (some ⟨g, 0, none⟩)) ∧
      Sp w0 ([Res.blk g #[.slice Am rows.length cm, .int .u64 ((2 ^ Q.toNat - 1 : Nat) : Int), .int .i64 0, .slice none 0 0, .func (.func fn) #[] caps, .bool false, .bool false] 64, Res.row kU 62 w0.heap.size (.slice Am rows.length cm) (masksI rows)] ++ rest) w' := by
  have HQ := A0_ (show 0 ≤ Q ∧ Q < 64 from by have := h.q1; have := h.qc; have := h.c60; omega)
  have HQE := A0_ (req1 Q HQ.out.1 HQ.out.2)
  have HN := A0_ h.n400
  have HR := A0_ hR
  have HIN := A0_ (show ∀ r ∈ rows, ∀ x ∈ r, 0 ≤ x ∧ x < 60 from fun r hr x hx => by have := h.ins r hr x hx; have := h.c60; omega)
  have HLE := A0_ (show ∀ r ∈ rows, r.length ≤ 60 from fun r hr => by
    rcases pair_len C r 0 (h.up r hr) (h.ins r hr) with h1 | h1
    · have := h.c60; omega
    · rw [h1]; simp)
  have HS0 := A0_ hs
  have HS := A0_ (Sp.box (Sp.made (Sp.alloc hs (.cells #[.int .i64 C, .int .i64 Q, .slice A rows.length cA] 28)) (Below.refl _ _) (Kd.R_nil kU 62 _ w0.heap.size _)) #[.slice none 0 0, .int .u64 (IntKind.u64.wrap (IntKind.u64.wrap (2 ^ min (IntKind.u64.wrap Q).toNat 64) - 1)), .int .i64 0, .slice none 0 0, .func (.func fn) #[] caps, .bool false, .bool false] 64)
  obtain ⟨g, hg⟩ : ∃ g, g = ((w.alloc (.cells #[.int .i64 C, .int .i64 Q, .slice A rows.length cA] 28))).heap.size := ⟨_, rfl⟩
  rw [← hg] at HS
  have hg' : w.heap.size + 1 = g := by rw [hg]; simp
  clear hs hR hg h
  go_enter Tryd.func50, Tryd.ntmps50
  go_wp2
  rw [HQE.out] at HS ⊢
  try rw [hg']
  have HS_ := A0_ (show Sp w0 ([Res.blk g #[.slice none 0 0, .int .u64 ((2 ^ Q.toNat - 1 : Nat) : Int), .int .i64 0, .slice none 0 0, .func (.func fn) #[] caps, .bool false, .bool false] 64, Res.row kU 62 w0.heap.size (.slice none 0 0) ((masksI rows).take 0)] ++ rest) _ from HS.out)
  clear HS HS0
  have HS := HS_
  clear HS_
  go_loopg [22] (rows.length + 1) (fun kq v22 w' => ∃ (i : Nat) (Am : Option Addr) (cm : Nat), v22 = .int .i64 (i : Int) ∧ Aside0 (i ≤ rows.length ∧ kq + i = rows.length + 1) ∧ Aside0 (Sp w0 ([Res.blk g #[.slice Am i cm, .int .u64 ((2 ^ Q.toNat - 1 : Nat) : Int), .int .i64 0, .slice none 0 0, .func (.func fn) #[] caps, .bool false, .bool false] 64, Res.row kU 62 w0.heap.size (.slice Am i cm) ((masksI rows).take i)] ++ rest) w'))
  case atStart => exact ⟨0, none, 0, rfl, ⟨by omega, by omega⟩, HS⟩
  case round =>
    clear HS
    obtain ⟨i, Am, cm, rfl, HX, HS⟩ := hrel
    obtain ⟨k1, rfl⟩ : ∃ k1, gk = k1 + 1 := ⟨gk - 1, by have := HX.out; omega⟩
    by_cases c : i < rows.length
    · have c0 : decide (i < rows.length) = true := decide_eq_true c
      have c1 := eq_true c
      obtain ⟨ad, Ar, cr, e, hx0, hx1, hx2⟩ := at_L1 HR.out (i : Int) (by omega) (by omega)
      cases e
      have er : rd_L1 rows (i : Int) = rows[i] := by unfold rd_L1; simp [c]
      rw [er] at hx0 hx1 hx2
      obtain ⟨r, hr⟩ : ∃ r, r = rows[i] := ⟨_, rfl⟩
      rw [← hr] at hx0 hx1 hx2
      replace hx0 := pw_cell_below HS.out.below hx0
      rw [Int.toNat_natCast] at hx0
      have HRR := A0_ (Kd.C_below hx2 HS.out.below)
      have HMN := A0_ (show (masksI rows).take (i + 1) = (masksI rows).take i ++ [((maskOf r : Nat) : Int)] by rw [hr]; exact masks_next rows i c)
      have HI := A0_ (show ∀ x ∈ r, 0 ≤ x ∧ x < 60 from hr ▸ HIN.out _ (List.getElem_mem c))
      have HLR := A0_ (show r.length ≤ 60 from hr ▸ HLE.out _ (List.getElem_mem c))
      have HC := A0_ c
      have p0 : (0 ≤ (i : Int)) = True := eq_true (by omega)
      have p1 : ((i : Int) < (rows.length : Int)) = True := eq_true (by omega)
      clear c hx2 er hr hx1
      go_wp2
      go_loopg [8, 28] (r.length + 1) (fun kq v8 v28 w' => ∃ (j : Nat), v28 = .int .i64 (j : Int) ∧ v8 = .int .u64 ((maskOf (r.take j) : Nat) : Int) ∧ Aside0 (j ≤ r.length ∧ kq + j = r.length + 1 ∧ maskOf (r.take j) < 2 ^ 60) ∧ Aside0 (Sp w0 ([Res.blk g #[.slice Am i cm, .int .u64 ((2 ^ Q.toNat - 1 : Nat) : Int), .int .i64 0, .slice none 0 0, .func (.func fn) #[] caps, .bool false, .bool false] 64, Res.row kU 62 w0.heap.size (.slice Am i cm) ((masksI rows).take i)] ++ rest) w') ∧ Aside0 (kI.C w' Ar r.length r))
      case atStart => exact ⟨0, rfl, rfl, ⟨by omega, by omega, by simp [maskOf]⟩, HS, HRR⟩
      case round =>
        clear HS HRR
        obtain ⟨j, rfl, rfl, HJ, HS, HRR⟩ := hrel
        obtain ⟨k2, rfl⟩ : ∃ k2, gk = k2 + 1 := ⟨gk - 1, by have := HJ.out; omega⟩
        by_cases c2 : j < r.length
        · have c20 : decide (j < r.length) = true := decide_eq_true c2
          have c21 := eq_true c2
          obtain ⟨ad2, e2, hx⟩ := Kd.at_int HRR.out (j : Int) (by omega) (by omega)
          cases e2
          rw [rd_nat r j c2, Int.toNat_natCast] at hx
          obtain ⟨hxi0, hxi1⟩ := HI.out r[j] (List.getElem_mem c2)
          have HOR := A0_ (or_next (maskOf (r.take j)) r[j] HJ.out.2.2 hxi0 hxi1)
          have HMX := A0_ (mask_next r j c2)
          have HWJ := A0_ (wrap_succ j (by have := HLR.out; omega))
          have q0 : (0 ≤ (j : Int)) = True := eq_true (by omega)
          have q1 : ((j : Int) < (r.length : Int)) = True := eq_true (by omega)
          generalize r[j] = x at *
          generalize maskOf (r.take j) = m at *
          clear c2
          go_wp2
          go_roundg k2
          case measure => have := HJ.out; omega
          case rel =>
            rw [HWJ.out, HOR.out.1]
            exact ⟨j + 1, rfl, by rw [HMX.out], ⟨by have := of_decide_eq_true c20; omega, by have := HJ.out; omega, by rw [HMX.out]; exact HOR.out.2⟩, HS, HRR⟩
        · have c20 : decide (j < r.length) = false := decide_eq_false c2
          have hj := A0_ (show j = r.length by have := HJ.out; omega)
          have HWI := A0_ (wrap_succ i (by have := HN.out; have := HX.out; omega))
          have hg_ := (Sp.blk HS.out (i := 0) rfl).1
          have hy0 := (blk_cell hg_ 0).trans rfl
          have hz0 := blk_frozen hg_ 0
          clear c2 hg_
          have hjm : maskOf (r.take j) = maskOf r := by rw [hj.out, List.take_length]
          have HJM := A0_ hjm
          have HML := A0_ (show ((masksI rows).take (i + 1)).length = i + 1 by rw [List.length_take, masks_len]; have := HC.out; omega)
          rw [hjm]
          clear hjm
          go_wp2_with (first
            | ((with_reducible refine gate_builtin (b := .append) (xs := #[.tmp 42, .tmp 44]) rfl ?_); at_builtin; obtain ⟨fp_, ho_, hf_, hc_⟩ := Sp.row HS.out (i := 1) rfl;
               refine Kd.R_append kU (w0 := w0) w0.heap.size rfl (.tmp 42) (.tmp 44) 61 62 (.int .u64 0) 8 rfl Tryd.underlying61 info62 rfl (by decide) (by omega) (.slice Am i cm) ((masksI rows).take i) ((maskOf r : Nat) : Int) [.int .u64 ((maskOf r : Nat) : Int)] (fun k => fp_ k ∨ wr.heap.size ≤ k) (fun _ => False) rfl rfl rfl (fun _ hk => hk.elim) (fun _ h => .inr h) ho_ HS.out.below HS.out.below.size ?aL ?_;
               (case aL => rw [List.length_take, masks_len]; have := HN.out; omega);
               intro v1 w1 ho hb hg hat; rw [← HMN.out] at ho; have HS2 := A0_ (hc_ _ _ _ ho hg); clear ho hb hg hat hc_ hf_ ho_ hy0 hz0 HS HRR fp_; obtain ⟨Am2, cm2, e2⟩ := Sp.slice HS2.out (i := 1) rfl; subst e2; rw [HML.out] at HS2; (try rw [HML.out]);
               have hg_ := (Sp.blk HS2.out (i := 0) rfl).1; have hy0 := (blk_cell hg_ 0).trans rfl; have hz0 := blk_frozen hg_ 0; clear hg_))
          go_roundg k1
          case measure => omega
          case rel =>
            refine ⟨i + 1, Am2, cm2, by rw [HWI.out], ⟨by have := HC.out; omega, by have := HX.out; omega⟩, ⟨?_⟩⟩
            have hz := Sp.set HS2.out 0 rfl 0 (.slice Am2 (i + 1) cm2) (blk_put (cs' := #[.slice Am2 (i + 1) cm2, .int .u64 ((2 ^ Q.toNat - 1 : Nat) : Int), .int .i64 0, .slice none 0 0, .func (.func fn) #[] caps, .bool false, .bool false]) (Sp.blk HS2.out (i := 0) rfl).1 0 _ rfl)
            exact hz
    · have c0 : decide (i < rows.length) = false := decide_eq_false c
      have hi := A0_ (show i = rows.length by have := HX.out; omega)
      clear c
      go_wp2
      go_ret
      have hs := HS.out
      rw [hi.out] at hs
      rw [← masks_len rows, List.take_length] at hs
      exact ⟨g, Am, cm, rfl, by rw [masks_len] at hs; exact hs⟩
end Go.Proofs.YtoglcgnbkibpgaaDoor.A

/- The bits of a word from the lowest on, and the counting of open rows by columns: plain. -/
namespace Go.Proofs.YtoglcgnbkibpgaaDoorW.Cov
open Go.Proofs.YtoglcgnbkibpgaaDoorW.Tree
set_option linter.unusedVariables false
theorem low_bits (n : Nat) (h0 : n ≠ 0) (h : n < 2 ^ 64) : Lib.ctz 64 n < 64 ∧ n.testBit (Lib.ctz 64 n) = true ∧ (∀ k, k < Lib.ctz 64 n → n.testBit k = false) ∧ ∀ k, (n &&& (n - 1)).testBit k = (n.testBit k && decide (k ≠ Lib.ctz 64 n)) := by
  obtain ⟨m, hm, hk⟩ := Lib.ctzFrom_spec 64 n (by omega) h
  have e : Lib.ctz 64 n = Lib.ctzFrom 64 n := by simp [Lib.ctz, h0]
  rw [e]
  generalize Lib.ctzFrom 64 n = t at *
  have hz : 0 < 2 ^ t := Nat.two_pow_pos t
  have hb : ∀ k, n.testBit k = (decide (t ≤ k) && (2 * m + 1).testBit (k - t)) := fun k => by rw [hm, Nat.testBit_two_pow_mul]
  have h1 : n - 1 = 2 ^ t * (2 * m) + (2 ^ t - 1) := by rw [hm, Nat.mul_add]; omega
  have hb1 : ∀ k, (n - 1).testBit k = if k < t then (2 ^ t - 1).testBit k else (2 * m).testBit (k - t) := fun k => by rw [h1, Nat.testBit_two_pow_mul_add _ (by omega)]
  refine ⟨hk, ?_, ?_, fun k => ?_⟩
  · rw [hb]; simp
  · intro k hk; rw [hb, decide_eq_false (by omega), Bool.false_and]
  · rw [Nat.testBit_and, hb, hb1]
    by_cases c : k < t
    · rw [decide_eq_false (show ¬ t ≤ k by omega)]; simp
    · rw [if_neg c, decide_eq_true (show t ≤ k by omega)]
      by_cases c2 : k = t
      · subst c2; simp
      · obtain ⟨j, hj⟩ : ∃ j, k - t = j + 1 := ⟨k - t - 1, by omega⟩
        rw [hj, Nat.testBit_succ, Nat.testBit_succ, show (2 * m + 1) / 2 = m by omega, show 2 * m / 2 = m by omega]
        simp [c2]
theorem bits_zero : bitsOf 0 = [] := by unfold bitsOf; simp
theorem range_cut (t n : Nat) (h : t < n) : List.range n = List.range t ++ t :: List.range' (t + 1) (n - t - 1) := by
  rw [List.range_eq_range', List.range_eq_range']
  have := List.range'_append_1 (s := 0) (m := t) (n := n - t)
  rw [show t + (n - t) = n by omega] at this
  rw [← this]
  congr 1
  rw [show n - t = (n - t - 1) + 1 by omega, List.range'_succ]
  simp
theorem bits_next (n : Nat) (h0 : n ≠ 0) (h : n < 2 ^ 64) : bitsOf n = Lib.ctz 64 n :: bitsOf (n &&& (n - 1)) := by
  obtain ⟨h1, h2, h3, h4⟩ := low_bits n h0 h
  generalize Lib.ctz 64 n = t at *
  unfold bitsOf
  rw [range_cut t 64 h1, List.filter_append, List.filter_append, List.filter_cons, List.filter_cons, if_pos h2, if_neg (by rw [h4]; simp)]
  have e1 : (List.range t).filter (fun k => n.testBit k) = [] := by
    rw [List.filter_eq_nil_iff]
    intro k hk
    rw [h3 k (by simpa using hk)]
    simp
  have e2 : (List.range t).filter (fun k => (n &&& (n - 1)).testBit k) = [] := by
    rw [List.filter_eq_nil_iff]
    intro k hk
    rw [h4, h3 k (by simpa using hk)]
    simp
  rw [e1, e2, List.nil_append, List.nil_append]
  congr 1
  apply List.filter_congr
  intro k hk
  rw [List.mem_range'] at hk
  obtain ⟨i, _, hk⟩ := hk
  rw [h4, decide_eq_true (by omega), Bool.and_true]
theorem bits_len (n : Nat) : (bitsOf n).length ≤ 64 := by
  unfold bitsOf
  have := List.length_filter_le (fun k => n.testBit k) (List.range 64)
  simpa using this
theorem bits_lt (n : Nat) : ∀ k ∈ bitsOf n, k < 64 := by
  unfold bitsOf
  intro k hk
  have := (List.mem_filter.1 hk).1
  simpa using this
def bump (cnt : List Int) (k : Nat) : List Int := cnt.set k (cnt.getD k 0 + 1)
def addMask (req cv : Nat) (cnt : List Int) (m : Nat) : List Int := if m &&& cv = 0 then (bitsOf (m &&& req)).foldl bump cnt else cnt
theorem bump_len (cnt : List Int) (k : Nat) : (bump cnt k).length = cnt.length := by simp [bump]
theorem bump_get (cnt : List Int) (k j : Nat) (hk : k < cnt.length) : (bump cnt k).getD j 0 = cnt.getD j 0 + if j = k then 1 else 0 := by
  unfold bump
  rw [List.getD_eq_getElem?_getD, List.getElem?_set]
  by_cases c : k = j
  · subst c
    rw [if_pos rfl, if_pos hk, if_pos rfl]
    rfl
  · rw [if_neg c, if_neg (fun e => c e.symm), Int.add_zero]
    rfl
theorem foldl_bump (ks : List Nat) (cnt : List Int) (hk : ∀ k ∈ ks, k < cnt.length) (hd : ks.Nodup) (j : Nat) : (ks.foldl bump cnt).length = cnt.length ∧ (ks.foldl bump cnt).getD j 0 = cnt.getD j 0 + if j ∈ ks then 1 else 0 := by
  induction ks generalizing cnt with
  | nil => simp
  | cons k ks ih =>
    rw [List.foldl_cons]
    rw [List.nodup_cons] at hd
    obtain ⟨h1, h2⟩ := ih (bump cnt k) (fun m hm => by rw [bump_len]; exact hk m (by simp [hm])) hd.2
    rw [bump_len] at h1
    refine ⟨h1, ?_⟩
    rw [h2, bump_get cnt k j (hk k (by simp))]
    by_cases c : j = k
    · subst c
      rw [if_pos rfl, if_neg hd.1, if_pos (by simp)]
      omega
    · rw [if_neg c]
      by_cases c2 : j ∈ ks
      · rw [if_pos c2, if_pos (by simp [c2])]; omega
      · rw [if_neg c2, if_neg (by simp [c, c2])]; omega
theorem bits_mem (n j : Nat) (hj : j < 64) : j ∈ bitsOf n ↔ n.testBit j = true := by
  unfold bitsOf
  rw [List.mem_filter]
  simp [hj]
theorem bits_nodup (n : Nat) : (bitsOf n).Nodup := List.Nodup.sublist List.filter_sublist List.nodup_range
theorem addMask_get (req cv : Nat) (cnt : List Int) (m j : Nat) (hc : cnt.length = 64) (hj : j < 64) : (addMask req cv cnt m).length = 64 ∧ (addMask req cv cnt m).getD j 0 = cnt.getD j 0 + if (m &&& cv == 0 && (m &&& req).testBit j) = true then 1 else 0 := by
  unfold addMask
  by_cases c : m &&& cv = 0
  · rw [if_pos c]
    obtain ⟨h1, h2⟩ := foldl_bump (bitsOf (m &&& req)) cnt (fun k hk => by rw [hc]; exact bits_lt _ k hk) (bits_nodup _) j
    refine ⟨h1.trans hc, ?_⟩
    rw [h2]
    have e : (m &&& cv == 0) = true := by simpa using c
    rw [e, Bool.true_and]
    by_cases c2 : j ∈ bitsOf (m &&& req)
    · rw [if_pos c2, if_pos ((bits_mem _ j hj).1 c2)]
    · rw [if_neg c2, if_neg (fun h => c2 ((bits_mem _ j hj).2 h))]
  · rw [if_neg c]
    have e : (m &&& cv == 0) = false := by simpa using c
    rw [e]
    simp [hc]
theorem counts_get (req cv : Nat) (masks : List Nat) (cnt : List Int) (j : Nat) (hc : cnt.length = 64) (hj : j < 64) : (masks.foldl (addMask req cv) cnt).length = 64 ∧ (masks.foldl (addMask req cv) cnt).getD j 0 = cnt.getD j 0 + (cntM masks req cv j : Nat) := by
  induction masks generalizing cnt with
  | nil => simp [hc, cntM]
  | cons m ms ih =>
    rw [List.foldl_cons]
    obtain ⟨h1, h2⟩ := addMask_get req cv cnt m j hc hj
    obtain ⟨h3, h4⟩ := ih _ h1
    refine ⟨h3, ?_⟩
    rw [h4, h2]
    unfold cntM
    rw [List.filter_cons]
    by_cases c : (m &&& cv == 0 && (m &&& req).testBit j) = true
    · rw [if_pos c, if_pos c, List.length_cons]; omega
    · rw [if_neg c, if_neg c]; omega
/-- The best column, as the program goes: the counts are a row. -/
def bestC (cnt : List Int) (b : Int) (k : Nat) : Int := if b < 0 ∨ cnt.getD k 0 < cnt.getD b.toNat 0 then (k : Int) else b
theorem best_same (masks : List Nat) (req cv : Nat) (cnt : List Int) (h : cnt = masks.foldl (addMask req cv) (List.replicate 64 0)) : (bitsOf (req ^^^ (req &&& cv))).foldl (bestC cnt) (-1) = bestM masks req cv := by
  have hg : ∀ j, j < 64 → cnt.getD j 0 = (cntM masks req cv j : Nat) := fun j hj => by
    rw [h, (counts_get req cv masks (List.replicate 64 0) j (by simp) hj).2]
    have e0 : (List.replicate 64 (0 : Int)).getD j 0 = 0 := by
      rw [List.getD_eq_getElem?_getD, List.getElem?_replicate, if_pos hj]; rfl
    rw [e0, Int.zero_add]
  unfold bestM
  have key : ∀ (ks : List Nat) (b : Int), (∀ k ∈ ks, k < 64) → b < 64 → ks.foldl (bestC cnt) b = ks.foldl (bestStep masks req cv) b := by
    intro ks
    induction ks with
    | nil => intro b _ _; rfl
    | cons k ks ih =>
      intro b hk hb
      rw [List.foldl_cons, List.foldl_cons]
      have e : bestC cnt b k = bestStep masks req cv b k := by
        unfold bestC bestStep
        by_cases c : b < 0
        · rw [if_pos (.inl c), if_pos (.inl c)]
        · rw [hg k (hk k (by simp)), hg b.toNat (by omega)]
          simp only [c, false_or, Int.ofNat_lt]
      rw [← e]
      refine ih _ (fun m hm => hk m (by simp [hm])) ?_
      unfold bestC
      have := hk k (by simp)
      split <;> omega
  exact key _ _ (bits_lt _) (by decide)
theorem andNot_xor (req cv : Nat) (hr : req < 2 ^ 64) (hc : cv < 2 ^ 64) : req &&& (18446744073709551615 - cv) = req ^^^ (req &&& cv) := by
  apply Nat.eq_of_testBit_eq
  intro k
  rw [Nat.testBit_and, Nat.testBit_xor, Nat.testBit_and, show 18446744073709551615 - cv = 2 ^ 64 - (cv + 1) by omega, Nat.testBit_two_pow_sub_succ hc]
  by_cases c : k < 64
  · rw [decide_eq_true c]
    cases req.testBit k <;> cases cv.testBit k <;> rfl
  · have : req.testBit k = false := Nat.testBit_lt_two_pow (Nat.lt_of_lt_of_le hr (Nat.pow_le_pow_right (by decide) (by omega)))
    rw [this]
    simp
end Go.Proofs.YtoglcgnbkibpgaaDoorW.Cov

/- impl.bestColumn, walked: the counts lie in an array of the function's own. -/
namespace Go.Proofs.YtoglcgnbkibpgaaDoor.A
open Go.RowKit Go.Proofs.YtoglcgnbkibpgaaDoorW.PrintWords Go.Proofs.YtoglcgnbkibpgaaDoorW.PrintLast Go.Proofs.YtoglcgnbkibpgaaDoorW.PrintMore Go.Proofs.YtoglcgnbkibpgaaDoorW.Cov Go.Proofs.YtoglcgnbkibpgaaDoorW.Tree
set_option linter.unusedVariables false
set_option linter.unusedSimpArgs false
def cellsI (cnt : List Int) : Array Value := (cnt.map (Value.int .i64)).toArray
theorem cellsI_get (cnt : List Int) (j : Nat) (h : j < cnt.length) : (cellsI cnt)[j]? = some (.int .i64 (cnt.getD j 0)) := by
  unfold cellsI
  simp [h]
theorem cellsI_set (cnt : List Int) (j : Nat) (x : Int) : cellsI (cnt.set j x) = (cellsI cnt).setIfInBounds j (.int .i64 x) := by
  unfold cellsI
  rw [List.setIfInBounds_toArray, List.map_set]
theorem cellsI_zero : cellsI (List.replicate 64 0) = #[.int .i64 0, .int .i64 0, .int .i64 0, .int .i64 0, .int .i64 0, .int .i64 0, .int .i64 0, .int .i64 0, .int .i64 0, .int .i64 0, .int .i64 0, .int .i64 0, .int .i64 0, .int .i64 0, .int .i64 0, .int .i64 0, .int .i64 0, .int .i64 0, .int .i64 0, .int .i64 0, .int .i64 0, .int .i64 0, .int .i64 0, .int .i64 0, .int .i64 0, .int .i64 0, .int .i64 0, .int .i64 0, .int .i64 0, .int .i64 0, .int .i64 0, .int .i64 0, .int .i64 0, .int .i64 0, .int .i64 0, .int .i64 0, .int .i64 0, .int .i64 0, .int .i64 0, .int .i64 0, .int .i64 0, .int .i64 0, .int .i64 0, .int .i64 0, .int .i64 0, .int .i64 0, .int .i64 0, .int .i64 0, .int .i64 0, .int .i64 0, .int .i64 0, .int .i64 0, .int .i64 0, .int .i64 0, .int .i64 0, .int .i64 0, .int .i64 0, .int .i64 0, .int .i64 0, .int .i64 0, .int .i64 0, .int .i64 0, .int .i64 0, .int .i64 0] := by rfl
/-- A store of what lies there changes nothing. -/
theorem setCell_same {w : World} {g : Nat} {cs : Array Value} {t : TypeId} {fr : Nat × Nat} (h : w.heap[g]? = some (.cells cs t fr)) (j : Nat) (v : Value) (hv : cs[j]? = some v) : w.setCell ⟨g, j, none⟩ v = w := by
  obtain ⟨hg, he⟩ := Array.getElem?_eq_some_iff.1 h
  unfold World.setCell
  have e : (w.heap.modify g fun
      | .cells c elem frozen => .cells (if (none : Option Nat).isSome then c else c.setIfInBounds j v) elem frozen
      | o => o) = w.heap := by
    apply Array.ext
    · simp
    · intro i h1 h2
      rw [Array.getElem_modify]
      split
      · rename_i e
        subst e
        rw [he]
        obtain ⟨hj, hje⟩ := Array.getElem?_eq_some_iff.1 hv
        have : cs.setIfInBounds j v = cs := by
          apply Array.ext
          · simp
          · intro k h1 h2
            rw [Array.getElem_setIfInBounds]
            split
            · rename_i e; subst e; exact hje.symm
            · rfl
        simp [this]
      · rfl
  simp only at e ⊢
  exact congrArg (fun x => { w with heap := x }) e
theorem setCells_same {w : World} {g : Nat} {cs : Array Value} {t : TypeId} {fr : Nat × Nat} (h : w.heap[g]? = some (.cells cs t fr)) : ∀ (vs : List Value) (o : Nat), (∀ j v, vs[j]? = some v → cs[o + j]? = some v) → w.setCells g o vs = w
  | [], o, _ => rfl
  | v :: vs, o, hv => by
    unfold World.setCells
    rw [setCell_same h o v (by simpa using hv 0 v rfl)]
    exact setCells_same h vs (o + 1) (fun j u hu => by have := hv (j + 1) u (by simpa using hu); rwa [Nat.add_assoc, Nat.add_comm 1 j])
/-- How it counts: what a loop over the masks holds. -/
def cntOk (i : Nat) (cnt : List Int) : Prop := cnt.length = 64 ∧ ∀ j, j < 64 → 0 ≤ cnt.getD j 0 ∧ cnt.getD j 0 ≤ 64 * (i : Int)
set_option maxHeartbeats 2000000 in
set_option maxRecDepth 100000 in
theorem impl_bestColumn.calls' (masks : List Nat) (hm : ∀ m ∈ masks, m < 2 ^ 60) (hn : masks.length ≤ 400) (req cv : Nat) (hr : req < 2 ^ 60) (hcv : cv < 2 ^ 60) (w : World) (hT : TabAt 0 Lib.deBruijn64tab w) (g : Nat) (Am : Option Addr) (cm : Nat) (hM : kU.C w Am masks.length (masks.map fun (m : Nat) => (m : Int))) (hcm : masks.length ≤ cm)
    (h0 : w.cell? ⟨g, 0, none⟩ = some (.slice Am masks.length cm)) (h1 : w.cell? ⟨g, 1, none⟩ = some (.int .u64 (req : Int))) :
    Calls Tryd.prog 68 #[.pointer (some ⟨g, 0, none⟩), .int .u64 (cv : Int)] w fun e w' => e = .returned (.int .i64 (bestM masks req cv)) ∧ Below w.heap.size w w' := by
  have HN := A0_ hn
  have HMM := A0_ hm
  have HT := A0_ hT
  have HM := A0_ hM
  have H0 := A0_ h0
  have H1 := A0_ h1
  obtain ⟨z, hz⟩ : ∃ z : List Int, z = List.replicate 64 0 := ⟨_, rfl⟩
  have HZ := A0_ hz
  have HV := A0_ (show Value.agg #[.int .i64 0, .int .i64 0, .int .i64 0, .int .i64 0, .int .i64 0, .int .i64 0, .int .i64 0, .int .i64 0, .int .i64 0, .int .i64 0, .int .i64 0, .int .i64 0, .int .i64 0, .int .i64 0, .int .i64 0, .int .i64 0, .int .i64 0, .int .i64 0, .int .i64 0, .int .i64 0, .int .i64 0, .int .i64 0, .int .i64 0, .int .i64 0, .int .i64 0, .int .i64 0, .int .i64 0, .int .i64 0, .int .i64 0, .int .i64 0, .int .i64 0, .int .i64 0, .int .i64 0, .int .i64 0, .int .i64 0, .int .i64 0, .int .i64 0, .int .i64 0, .int .i64 0, .int .i64 0, .int .i64 0, .int .i64 0, .int .i64 0, .int .i64 0, .int .i64 0, .int .i64 0, .int .i64 0, .int .i64 0, .int .i64 0, .int .i64 0, .int .i64 0, .int .i64 0, .int .i64 0, .int .i64 0, .int .i64 0, .int .i64 0, .int .i64 0, .int .i64 0, .int .i64 0, .int .i64 0, .int .i64 0, .int .i64 0, .int .i64 0, .int .i64 0] = Value.agg (cellsI z) by rw [hz, cellsI_zero])
  obtain ⟨wA, hwA⟩ : ∃ wA, wA = w.alloc (.cells (cellsI z) 92) := ⟨_, rfl⟩
  have HW := A0_ (show w.alloc (.cells #[.int .i64 0, .int .i64 0, .int .i64 0, .int .i64 0, .int .i64 0, .int .i64 0, .int .i64 0, .int .i64 0, .int .i64 0, .int .i64 0, .int .i64 0, .int .i64 0, .int .i64 0, .int .i64 0, .int .i64 0, .int .i64 0, .int .i64 0, .int .i64 0, .int .i64 0, .int .i64 0, .int .i64 0, .int .i64 0, .int .i64 0, .int .i64 0, .int .i64 0, .int .i64 0, .int .i64 0, .int .i64 0, .int .i64 0, .int .i64 0, .int .i64 0, .int .i64 0, .int .i64 0, .int .i64 0, .int .i64 0, .int .i64 0, .int .i64 0, .int .i64 0, .int .i64 0, .int .i64 0, .int .i64 0, .int .i64 0, .int .i64 0, .int .i64 0, .int .i64 0, .int .i64 0, .int .i64 0, .int .i64 0, .int .i64 0, .int .i64 0, .int .i64 0, .int .i64 0, .int .i64 0, .int .i64 0, .int .i64 0, .int .i64 0, .int .i64 0, .int .i64 0, .int .i64 0, .int .i64 0, .int .i64 0, .int .i64 0, .int .i64 0, .int .i64 0] 92) = wA by rw [hwA, hz, cellsI_zero])
  obtain ⟨ga, hga⟩ : ∃ ga, ga = w.heap.size := ⟨_, rfl⟩
  have HS := A0_ (show Sp w ([Res.blk ga (cellsI z) 92] ++ []) wA from by rw [hwA, hga]; exact Sp.box (Sp.start w) (cellsI z) 92)
  have HGA := A0_ hga.symm
  have q0 := pw_cell_below HS.out.below h0
  have q1 := pw_cell_below HS.out.below h1
  obtain ⟨fin, hfin⟩ : ∃ fin, fin = masks.foldl (addMask req cv) z := ⟨_, rfl⟩
  have HF := A0_ hfin
  clear hfin hz hwA hga h0 h1 hM hT hm hn
  go_enter Tryd.func68, Tryd.ntmps68
  go_wp2_with (first
    | ((with_reducible refine gate_store (t := 92) (p := 5) (v := .tmp 12) rfl ?_); rw [HW.out, HV.out, HGA.out];
       refine wpList_store_mid rfl 92 (.tmp 5) (.tmp 12) rfl ga 0 (cellsI z) rfl rfl ?ht ?hi ?h1 ?_;
       (case ht => intro j hj; rw [Nat.zero_add]; have hj' : j < z.length := (by simpa [cellsI] using hj); have hg_ := (Sp.blk HS.out (i := 0) rfl).1; exact ⟨by rw [blk_cell hg_, cellsI_get z j hj']; rfl, blk_frozen hg_ j⟩);
       (case hi => rw [show (cellsI z).size = 64 by rw [HZ.out]; rfl]; kernel_rfl);
       (case h1 => exact all_oneCell_toArray (fun v hv => by rw [List.mem_map] at hv; obtain ⟨x, _, rfl⟩ := hv; rfl));
       rw [setCells_same (Sp.blk HS.out (i := 0) rfl).1 (cellsI z).toList 0 (fun j v hv => by simpa using hv)]))
  go_loopg [18] (masks.length + 1) (fun kq v18 w' => ∃ (i : Nat) (cnt : List Int), v18 = .int .i64 (i : Int) ∧ Aside0 (i ≤ masks.length ∧ kq + i = masks.length + 1) ∧ Aside0 (cntOk i cnt ∧ (masks.drop i).foldl (addMask req cv) cnt = fin) ∧ Aside0 (Sp w ([Res.blk ga (cellsI cnt) 92] ++ []) w'))
  case atStart => exact ⟨0, z, rfl, ⟨by omega, by omega⟩, ⟨⟨by rw [HZ.out]; rfl, fun j hj => by rw [HZ.out, List.getD_eq_getElem?_getD, List.getElem?_replicate, if_pos hj]; exact ⟨Int.le_refl _, Int.le_refl _⟩⟩, HF.out.symm⟩, HS⟩
  case round =>
    clear HS q0 q1
    obtain ⟨i, cnt, rfl, HX, HC, HS⟩ := hrel
    obtain ⟨k1, rfl⟩ : ∃ k1, gk = k1 + 1 := ⟨gk - 1, by have := HX.out; omega⟩
    have q0 := pw_cell_below HS.out.below H0.out
    have q1 := pw_cell_below HS.out.below H1.out
    by_cases c : i < masks.length
    · have c0 : decide (i < masks.length) = true := decide_eq_true c
      have c1 := eq_true c
      have hlm : (masks.map fun (m : Nat) => (m : Int)).length = masks.length := by simp
      obtain ⟨ad, e, hx⟩ := Kd.at_int HM.out (i : Int) (by omega) (by omega)
      cases e
      have er : rd (masks.map fun (m : Nat) => (m : Int)) (i : Int) = ((masks[i] : Nat) : Int) := by rw [rd_nat _ i (by omega)]; simp
      rw [er, Int.toNat_natCast] at hx
      obtain ⟨m, hm⟩ : ∃ m, m = masks[i] := ⟨_, rfl⟩
      rw [← hm] at hx
      replace hx := pw_cell_below HS.out.below hx
      have hm60 := HMM.out masks[i] (List.getElem_mem c)
      rw [← hm] at hm60
      have HDR := A0_ (show masks.drop i = m :: masks.drop (i + 1) by rw [hm]; exact List.drop_eq_getElem_cons c)
      have two60 : (2 : Nat) ^ 60 < 18446744073709551616 := by decide
      have E1 := A0_ (u64_and_nat m cv (by omega) (by omega))
      have E2 := A0_ (u64_and_nat m req (by omega) (by omega))
      have HQ := A0_ (show m &&& req < 2 ^ 60 from Nat.lt_of_le_of_lt Nat.and_le_left hm60)
      have HWI := A0_ (wrap_succ i (by have := HN.out; have := HX.out; omega))
      have HCC := A0_ c
      clear er hm c hm60 hlm two60
      by_cases cc : m &&& cv = 0
      · have HST := A0_ (show (masks.drop (i + 1)).foldl (addMask req cv) ((bitsOf (m &&& req)).foldl bump cnt) = fin by
          have := HC.out.2
          rw [HDR.out, List.foldl_cons] at this
          unfold addMask at this
          rw [if_pos cc] at this
          exact this)
        rw [cc] at E1
        clear cc
        obtain ⟨q, hq⟩ : ∃ q, q = m &&& req := ⟨_, rfl⟩
        rw [← hq] at E2 HQ HST
        clear hq
        go_wp2_with (first | rw [E1.out] | rw [E2.out])
        go_loopg [8] ((bitsOf q).length + 1) (fun kq v8 w' => ∃ (l : Nat) (cnt' : List Int), v8 = .int .u64 (l : Int) ∧ Aside0 (l < 2 ^ 60 ∧ kq = (bitsOf l).length + 1) ∧ Aside0 (cnt'.length = 64 ∧ (∀ j, j < 64 → 0 ≤ cnt'.getD j 0 ∧ cnt'.getD j 0 + (bitsOf l).length ≤ 64 * ((i : Int) + 1)) ∧ (masks.drop (i + 1)).foldl (addMask req cv) ((bitsOf l).foldl bump cnt') = fin) ∧ Aside0 (Sp w ([Res.blk ga (cellsI cnt') 92] ++ []) w'))
        case atStart => exact ⟨q, cnt, rfl, ⟨HQ.out, rfl⟩, ⟨HC.out.1.1, fun j hj => ⟨(HC.out.1.2 j hj).1, by have := (HC.out.1.2 j hj).2; have := bits_len q; omega⟩, HST.out⟩, HS⟩
        case round =>
          clear HS HC HST HQ E1 E2 q0 q1 hx
          obtain ⟨l, cnt', rfl, HL, HC, HS⟩ := hrel
          by_cases c2 : l = 0
          · subst c2
            go_wp2
            go_roundg k1
            case measure => omega
            case rel =>
              rw [HWI.out]
              exact ⟨i + 1, cnt', rfl, ⟨by have := HCC.out; omega, by have := HX.out; omega⟩, ⟨⟨HC.out.1, fun j hj => ⟨(HC.out.2.1 j hj).1, by have := (HC.out.2.1 j hj).2; rw [bits_zero] at this; simp only [List.length_nil] at this; push_cast; omega⟩⟩, by have := HC.out.2.2; rw [bits_zero] at this; exact this⟩, HS⟩
          · have two60 : (2 : Nat) ^ 60 < 18446744073709551616 := by decide
            have hl := HL.out.1
            have HLT := A0_ (show l < 18446744073709551616 by omega)
            have HL0 := A0_ c2
            have l0 : (l = 0) = False := eq_false c2
            have l1 : (l == 0) = false := by rw [beq_eq_false_iff_ne]; exact c2
            have HT2 := A0_ (show TabAt 0 Lib.deBruijn64tab wr from fun j hj => pw_cell_below HS.out.below (HT.out j hj))
            have HBN := A0_ (bits_next l c2 (by omega))
            obtain ⟨ht1, _, _, _⟩ := low_bits l c2 (by omega)
            obtain ⟨t, ht⟩ : ∃ t, t = Lib.ctz 64 l := ⟨_, rfl⟩
            rw [← ht] at ht1 HBN
            have HTT := A0_ ht.symm
            have hg_ := (Sp.blk HS.out (i := 0) rfl).1
            have hy := (blk_cell hg_ t).trans (cellsI_get cnt' t (by rw [HC.out.1]; exact ht1))
            have hz_ := blk_frozen hg_ t
            have HE3 := A0_ (show IntKind.u64.wrap ((l : Int) - 1) = ((l - 1 : Nat) : Int) by rw [IntKind.wrap_u64]; omega)
            have HE4 := A0_ (u64_and_nat l (l - 1) (by omega) (by omega))
            have HL2 := A0_ (show l &&& (l - 1) < 2 ^ 60 from Nat.lt_of_le_of_lt Nat.and_le_left hl)
            have HB := HC.out.2.1 t ht1
            have HCB := A0_ HB
            obtain ⟨x, hx⟩ : ∃ x, x = cnt'.getD t 0 := ⟨_, rfl⟩
            rw [← hx] at hy
            have HXX := A0_ hx
            have HWX := A0_ (show wrap64 (x + 1) = x + 1 by rw [hx]; unfold wrap64; have := HX.out; have := HN.out; omega)
            have t0 : ((t : Int) < 64) = True := eq_true (by omega)
            have t1 : ((64 : Int) ≤ (t : Int)) = False := eq_false (by omega)
            have HTL := A0_ ht1
            clear HB hx ht two60 hl c2 hg_ ht1
            go_wp2_with (first
              | (go_at_call 83; refine (tz_calls l HLT.out HL0.out _ HT2.out).mono ?_; rintro e w1 ⟨rfl, rfl⟩; rw [HTT.out])
              | rw [HE3.out] | rw [HE4.out] | rw [HWX.out])
            go_roundg ((bitsOf (l &&& (l - 1))).length + 1)
            case measure => rw [HL.out.2, HBN.out]; simp
            case rel =>
              have hlen : (bitsOf l).length = (bitsOf (l &&& (l - 1))).length + 1 := by rw [HBN.out]; rfl
              refine ⟨l &&& (l - 1), bump cnt' t, rfl, ⟨HL2.out, rfl⟩, ⟨by rw [bump_len]; exact HC.out.1, fun j hj => ?_, ?_⟩, ⟨?_⟩⟩
              · have hb := HC.out.2.1 j hj
                rw [hlen] at hb
                rw [bump_get cnt' t j (by rw [HC.out.1]; exact HTL.out)]
                push_cast at hb
                split <;> omega
              · have := HC.out.2.2
                rw [HBN.out, List.foldl_cons] at this
                exact this
              · have hz := Sp.set HS.out 0 rfl t (.int .i64 (x + 1)) (blk_put (cs' := cellsI (bump cnt' t)) (Sp.blk HS.out (i := 0) rfl).1 t _ (by unfold bump; rw [← HXX.out, cellsI_set]))
                exact hz
      · have HST := A0_ (show (masks.drop (i + 1)).foldl (addMask req cv) cnt = fin by
          have := HC.out.2
          rw [HDR.out, List.foldl_cons] at this
          unfold addMask at this
          rw [if_neg cc] at this
          exact this)
        obtain ⟨p, hp⟩ : ∃ p, p = m &&& cv := ⟨_, rfl⟩
        rw [← hp] at E1 cc
        clear hp
        have p0 : (p = 0) = False := eq_false cc
        go_wp2_with (first | rw [E1.out] | rw [E2.out])
        go_roundg k1
        case measure => omega
        case rel =>
          rw [HWI.out]
          exact ⟨i + 1, cnt, rfl, ⟨by have := HCC.out; omega, by have := HX.out; omega⟩, ⟨⟨HC.out.1.1, fun j hj => ⟨(HC.out.1.2 j hj).1, by have := (HC.out.1.2 j hj).2; push_cast; omega⟩⟩, HST.out⟩, HS⟩
    · have c0 : decide (i < masks.length) = false := decide_eq_false c
      have hi : i = masks.length := by have := HX.out; omega
      have hfin : cnt = fin := by have := HC.out.2; rw [hi, List.drop_length] at this; exact this
      have two60 : (2 : Nat) ^ 60 < 18446744073709551616 := by decide
      have HCL := A0_ HC.out.1.1
      have HBS := A0_ (best_same masks req cv cnt (by rw [hfin, HF.out, HZ.out]))
      obtain ⟨q2, hq2⟩ : ∃ q2, q2 = req ^^^ (req &&& cv) := ⟨_, rfl⟩
      rw [← hq2] at HBS
      have HE := A0_ (show bits .andNot .u64 (req : Int) (cv : Int) = ((q2 : Nat) : Int) by rw [u64_andNot_nat req cv (by omega) (by omega), andNot_xor req cv (by omega) (by omega), hq2])
      have HQ2 := A0_ (show q2 < 2 ^ 60 by rw [hq2, ← andNot_xor req cv (by omega) (by omega)]; exact Nat.lt_of_le_of_lt Nat.and_le_left hr)
      clear hq2 hfin hi c two60 HC HF HX
      go_wp2_with (rw [HE.out])
      go_loopg [9, 10] ((bitsOf q2).length + 1) (fun kq v9 v10 w' => ∃ (b : Int) (l : Nat), v9 = .int .i64 b ∧ v10 = .int .u64 (l : Int) ∧ Aside0 (l < 2 ^ 60 ∧ kq = (bitsOf l).length + 1 ∧ -1 ≤ b ∧ b < 64 ∧ (bitsOf l).foldl (bestC cnt) b = bestM masks req cv) ∧ Aside0 (Sp w ([Res.blk ga (cellsI cnt) 92] ++ []) w'))
      case atStart => exact ⟨-1, q2, rfl, rfl, ⟨HQ2.out, rfl, by omega, by omega, HBS.out⟩, HS⟩
      case round =>
        clear HS HQ2 HBS q0 q1 HE
        obtain ⟨b, l, rfl, rfl, HL, HS⟩ := hrel
        by_cases c2 : l = 0
        · subst c2
          have he := HL.out.2.2.2.2
          rw [bits_zero] at he
          have HEE := A0_ (show b = bestM masks req cv from he)
          clear he
          go_wp2
          go_ret
          exact ⟨by rw [← HEE.out]; rfl, HS.out.below⟩
        · have two60 : (2 : Nat) ^ 60 < 18446744073709551616 := by decide
          have hl := HL.out.1
          have HLT := A0_ (show l < 18446744073709551616 by omega)
          have HL0 := A0_ c2
          have l0 : (l = 0) = False := eq_false c2
          have l1 : (l == 0) = false := by rw [beq_eq_false_iff_ne]; exact c2
          have HT2 := A0_ (show TabAt 0 Lib.deBruijn64tab wr from fun j hj => pw_cell_below HS.out.below (HT.out j hj))
          have HBN := A0_ (bits_next l c2 (by omega))
          obtain ⟨ht1, _, _, _⟩ := low_bits l c2 (by omega)
          obtain ⟨t, ht⟩ : ∃ t, t = Lib.ctz 64 l := ⟨_, rfl⟩
          rw [← ht] at ht1 HBN
          have HTT := A0_ ht.symm
          have HE3 := A0_ (show IntKind.u64.wrap ((l : Int) - 1) = ((l - 1 : Nat) : Int) by rw [IntKind.wrap_u64]; omega)
          have HE4 := A0_ (u64_and_nat l (l - 1) (by omega) (by omega))
          have HL2 := A0_ (show l &&& (l - 1) < 2 ^ 60 from Nat.lt_of_le_of_lt Nat.and_le_left hl)
          have t0 : ((t : Int) < 64) = True := eq_true (by omega)
          have t1 : ((64 : Int) ≤ (t : Int)) = False := eq_false (by omega)
          have HTL := A0_ ht1
          clear ht two60 hl c2 ht1
          by_cases cb : b < 0
          · have b0 : decide (b < 0) = true := decide_eq_true cb
            have HCB := A0_ cb
            clear cb
            go_wp2_with (first
              | (go_at_call 83; refine (tz_calls l HLT.out HL0.out _ HT2.out).mono ?_; rintro e w1 ⟨rfl, rfl⟩; rw [HTT.out])
              | rw [HE3.out] | rw [HE4.out])
            go_quiet (fail)
            go_wp2_with (first | rw [HE3.out] | rw [HE4.out])
            go_roundg ((bitsOf (l &&& (l - 1))).length + 1)
            case measure => rw [HL.out.2.1, HBN.out]; simp
            case rel =>
              refine ⟨(t : Int), l &&& (l - 1), rfl, rfl, ⟨HL2.out, rfl, by omega, by have := HTL.out; omega, ?_⟩, ⟨Sp.drewN HS.out _⟩⟩
              have := HL.out.2.2.2.2
              rw [HBN.out, List.foldl_cons] at this
              rw [← this]
              unfold bestC
              rw [if_pos (.inl HCB.out)]
          · have b0 : decide (b < 0) = false := decide_eq_false cb
            have HCB := A0_ cb
            have hb64 := HL.out.2.2.2.1
            have bb0 : (0 ≤ b) = True := eq_true (by omega)
            have bb1 : (b < 64) = True := eq_true hb64
            have hg_ := (Sp.blk HS.out (i := 0) rfl).1
            have hy := (blk_cell hg_ t).trans (cellsI_get cnt t (by rw [HCL.out]; exact HTL.out))
            have hyb := (blk_cell hg_ b.toNat).trans (cellsI_get cnt b.toNat (by rw [HCL.out]; omega))
            obtain ⟨x, hx⟩ : ∃ x, x = cnt.getD t 0 := ⟨_, rfl⟩
            obtain ⟨y, hy2⟩ : ∃ y, y = cnt.getD b.toNat 0 := ⟨_, rfl⟩
            rw [← hx] at hy
            rw [← hy2] at hyb
            have HXX := A0_ hx
            have HYY := A0_ hy2
            clear hx hy2 hg_ cb hb64
            by_cases cx : x < y
            · have cx0 : decide (x < y) = true := decide_eq_true cx
              have HCX := A0_ cx
              clear cx
              go_wp2_with (first
                | (go_at_call 83; refine (tz_calls l HLT.out HL0.out _ HT2.out).mono ?_; rintro e w1 ⟨rfl, rfl⟩; rw [HTT.out])
                | rw [HE3.out] | rw [HE4.out])
              go_quiet (fail)
              go_wp2_with (first | rw [HE3.out] | rw [HE4.out])
              go_roundg ((bitsOf (l &&& (l - 1))).length + 1)
              case measure => rw [HL.out.2.1, HBN.out]; simp
              case rel =>
                refine ⟨(t : Int), l &&& (l - 1), rfl, rfl, ⟨HL2.out, rfl, by omega, by have := HTL.out; omega, ?_⟩, ⟨Sp.drewN HS.out _⟩⟩
                have := HL.out.2.2.2.2
                rw [HBN.out, List.foldl_cons] at this
                rw [← this]
                unfold bestC
                rw [if_pos (.inr (by rw [← HXX.out, ← HYY.out]; exact HCX.out))]
            · have cx0 : decide (x < y) = false := decide_eq_false cx
              have HCX := A0_ cx
              clear cx
              go_wp2_with (first
                | (go_at_call 83; refine (tz_calls l HLT.out HL0.out _ HT2.out).mono ?_; rintro e w1 ⟨rfl, rfl⟩; rw [HTT.out])
                | rw [HE3.out] | rw [HE4.out])
              go_quiet (fail)
              go_wp2_with (first | rw [HE3.out] | rw [HE4.out])
              go_roundg ((bitsOf (l &&& (l - 1))).length + 1)
              case measure => rw [HL.out.2.1, HBN.out]; simp
              case rel =>
                refine ⟨b, l &&& (l - 1), rfl, rfl, ⟨HL2.out, rfl, by have := HL.out.2.2.1; omega, by have := HL.out.2.2.2.1; omega, ?_⟩, ⟨Sp.drewN HS.out _⟩⟩
                have := HL.out.2.2.2.2
                rw [HBN.out, List.foldl_cons] at this
                rw [← this]
                unfold bestC
                rw [if_neg (by rw [← HXX.out, ← HYY.out]; exact fun h => h.elim (fun h1 => by have := HCB.out; omega) (fun h2 => by have := HCX.out; omega))]
end Go.Proofs.YtoglcgnbkibpgaaDoor.A

/- The program's search over masks, step by step: plain. -/
namespace Go.Proofs.YtoglcgnbkibpgaaDoorW.Cov
open Go.Proofs.YtoglcgnbkibpgaaDoorW.Tree
set_option linter.unusedVariables false
/-- The columns that are still to be covered. -/
def leftM (req cv : Nat) : List Nat := bitsOf (req ^^^ (req &&& cv))
theorem best_mem (masks : List Nat) (req cv : Nat) (h : 0 ≤ bestM masks req cv) : (bestM masks req cv).toNat ∈ leftM req cv := by
  have key : ∀ (ks : List Nat) (b : Int), ks.foldl (bestStep masks req cv) b = b ∨ ∃ k ∈ ks, ks.foldl (bestStep masks req cv) b = (k : Int) := by
    intro ks
    induction ks with
    | nil => intro b; exact .inl rfl
    | cons k ks ih =>
      intro b
      rw [List.foldl_cons]
      rcases ih (bestStep masks req cv b k) with h | ⟨j, hj, h⟩
      · rw [h]
        unfold bestStep
        split
        · exact .inr ⟨k, by simp, rfl⟩
        · exact .inl rfl
      · exact .inr ⟨j, by simp [hj], h⟩
  rcases key (leftM req cv) (-1) with h1 | ⟨k, hk, h1⟩
  · exact absurd (show bestM masks req cv = -1 from h1) (by omega)
  · have : bestM masks req cv = (k : Int) := h1
    rw [this]
    simpa using hk
theorem left_lt (req cv : Nat) : ∀ k ∈ leftM req cv, k < 64 := bits_lt _
theorem left_less (req cv m k : Nat) (hk : k ∈ leftM req cv) (hm : m.testBit k = true) : (leftM req (cv ||| m)).length < (leftM req cv).length := by
  have e : leftM req (cv ||| m) = (leftM req cv).filter fun j => !m.testBit j := by
    unfold leftM bitsOf
    rw [List.filter_filter]
    apply List.filter_congr
    intro j _
    simp only [Nat.testBit_xor, Nat.testBit_and, Nat.testBit_or]
    cases req.testBit j <;> cases cv.testBit j <;> cases m.testBit j <;> rfl
  rw [e]
  exact List.length_filter_lt_length_iff_exists.2 ⟨k, hk, by simp [hm]⟩
/-- What is still to try from the i-th mask on. -/
def kidsFrom (masks : List Nat) (cv : Nat) (seq : List Int) (col : Int) (i : Nat) : List (Nat × List Int) := ((List.range' i (masks.length - i)).filter (takesM masks cv col)).map fun i => (cv ||| masks.getD i 0, seq ++ [(i : Int)])
theorem kids_zero (masks : List Nat) (req cv : Nat) (seq : List Int) : kidsM masks req (cv, seq) = kidsFrom masks cv seq (bestM masks req cv) 0 := by
  unfold kidsM kidsFrom
  rw [List.range_eq_range']
  rfl
theorem kids_end (masks : List Nat) (cv : Nat) (seq : List Int) (col : Int) : kidsFrom masks cv seq col masks.length = [] := by
  unfold kidsFrom
  simp
theorem kids_next (masks : List Nat) (cv : Nat) (seq : List Int) (col : Int) (i : Nat) (h : i < masks.length) : kidsFrom masks cv seq col i = if takesM masks cv col i = true then (cv ||| masks[i], seq ++ [(i : Int)]) :: kidsFrom masks cv seq col (i + 1) else kidsFrom masks cv seq col (i + 1) := by
  unfold kidsFrom
  rw [show masks.length - i = (masks.length - (i + 1)) + 1 by omega, List.range'_succ, List.filter_cons]
  have e : masks.getD i 0 = masks[i] := by simp [h]
  split
  · rw [List.map_cons, e]
  · rfl
theorem takes_eq (masks : List Nat) (cv : Nat) (col : Int) (i : Nat) (h : i < masks.length) : takesM masks cv col i = (masks[i].testBit col.toNat && (masks[i] &&& cv == 0)) := by
  unfold takesM
  have e : masks.getD i 0 = masks[i] := by simp [h]
  rw [e]
section
variable {α : Type} (masks : List Nat) (req : Nat) (step : α → List Int → α × Bool)
abbrev fromM (d : Nat) (cv : Nat) (seq : List Int) (s : LS α) : LS α := fromG (leafM masks req) (kidsM masks req) 20000 step d (cv, seq) s
theorem from_lim (d cv : Nat) (seq : List Int) (s : LS α) (h : s.steps = 20000) : fromM masks req step d cv seq s = ⟨s.steps, s.ended, true, s.a⟩ := by
  unfold fromM fromG
  rw [if_pos h]
theorem from_leaf (d cv : Nat) (seq : List Int) (s : LS α) (h : s.steps ≠ 20000) (hb : bestM masks req cv < 0) : fromM masks req step d cv seq s = ⟨s.steps + 1, !(step s.a seq).2, s.broken, (step s.a seq).1⟩ := by
  unfold fromM fromG
  rw [if_neg h]
  have e : leafM masks req (cv, seq) = some seq := by unfold leafM; rw [if_pos hb]
  rw [e]
theorem from_kids (d cv : Nat) (seq : List Int) (s : LS α) (h : s.steps ≠ 20000) (hb : ¬ bestM masks req cv < 0) : fromM masks req step (d + 1) cv seq s = foldL (fun n => fromM masks req step d n.1 n.2) (kidsFrom masks cv seq (bestM masks req cv) 0) ⟨s.steps + 1, s.ended, s.broken, s.a⟩ := by
  unfold fromM
  rw [fromG.eq_def]
  dsimp only
  rw [if_neg h]
  have e : leafM masks req (cv, seq) = none := by unfold leafM; rw [if_neg hb]
  rw [e, kids_zero]
theorem from_steps (d : Nat) : ∀ (cv : Nat) (seq : List Int) (s : LS α), 0 ≤ s.steps ∧ s.steps ≤ 20000 → 0 ≤ (fromM masks req step d cv seq s).steps ∧ (fromM masks req step d cv seq s).steps ≤ 20000 := by
  induction d with
  | zero =>
    intro cv seq s hs
    unfold fromM fromG
    split
    · exact hs
    · split
      · dsimp only; omega
      · dsimp only; omega
  | succ d ih =>
    intro cv seq s hs
    unfold fromM
    rw [fromG.eq_def]
    dsimp only
    split
    · exact hs
    · split
      · dsimp only; omega
      · have : ∀ (l : List (Nat × List Int)) (s : LS α), 0 ≤ s.steps ∧ s.steps ≤ 20000 → 0 ≤ (foldL (fromG (leafM masks req) (kidsM masks req) 20000 step d) l s).steps ∧ (foldL (fromG (leafM masks req) (kidsM masks req) 20000 step d) l s).steps ≤ 20000 := by
          intro l
          induction l with
          | nil => intro s hs; exact hs
          | cons n l ihl =>
            intro s hs
            unfold foldL
            have h1 := ih n.1 n.2 s hs
            split
            · exact h1
            · exact ihl _ h1
        exact this _ _ ⟨by dsimp only; omega, by dsimp only; omega⟩
end
theorem test_shr (m : Nat) (col : Int) (h0 : 0 ≤ col) : ((m : Int) / 2 ^ col.toNat) = ((m >>> col.toNat : Nat) : Int) := by
  rw [Nat.shiftRight_eq_div_pow]
  simp
theorem bit_and (m k : Nat) : (m >>> k) &&& 1 = if m.testBit k = true then 1 else 0 := by
  rw [Nat.testBit, Nat.and_comm]
  have : m >>> k &&& 1 = (m >>> k) % 2 := Nat.and_one_is_mod _
  rw [Nat.and_comm 1, this]
  have := Nat.mod_two_eq_zero_or_one (m >>> k)
  rcases this with h | h <;> simp [h]
end Go.Proofs.YtoglcgnbkibpgaaDoorW.Cov

/- The program's search for covers, walked: it comes to what its plain twin comes to, for any visit. -/
namespace Go.Proofs.YtoglcgnbkibpgaaDoor.A
open Go.RowKit Go.Proofs.YtoglcgnbkibpgaaDoorW.PrintWords Go.Proofs.YtoglcgnbkibpgaaDoorW.PrintLast Go.Proofs.YtoglcgnbkibpgaaDoorW.PrintMore Go.Proofs.YtoglcgnbkibpgaaDoorW.Cov Go.Proofs.YtoglcgnbkibpgaaDoorW.Tree
set_option linter.unusedVariables false
set_option linter.unusedSimpArgs false
def impl_from.T5 : Bool × List (List Nat × List Nat) := (true, [([], []), ([], []), ([1], [1]), ([2], [2]), ([3], [3]), ([], []), ([5], [5]), ([6], [6]), ([7], [7]), ([4, 8], [4, 8]), ([9], [9]), ([0, 0, 1, 2, 3, 4, 5, 6, 7, 8, 9, 10], [0]), ([11, 0, 1, 2, 3, 4, 5, 6, 7, 8, 9, 10], [11]), ([12, 10, 9, 0, 1, 2, 3, 4, 5, 6, 7, 8, 9, 10], [10, 12])])
def impl_from.B5 : List Nat := [0, 0, 2, 6, 14, 0, 32, 96, 224, 510, 1022, 2047, 4095, 8191]
theorem impl_from.tab5 : rtab .any (opsOf Tryd.f53 5) = impl_from.T5 := by kernel_rfl
theorem impl_from.bits5 : waitsOk impl_from.T5.2 impl_from.B5 = true := by kernel_rfl
def impl_from.T12 : Bool × List (List Nat × List Nat) := (true, [([], []), ([], []), ([1], [1]), ([2], [2]), ([3], [3]), ([], []), ([5], [5]), ([6], [6]), ([7], [7]), ([8], [8]), ([9], [9]), ([4, 10], [4, 10]), ([0, 0, 1, 2, 3, 4, 5, 6, 7, 8, 9, 10, 11], [0]), ([12, 0, 1, 2, 3, 4, 5, 6, 7, 8, 9, 10, 11], [12]), ([13, 11, 0, 1, 2, 3, 4, 5, 6, 7, 8, 9, 10, 11], [11, 13])])
def impl_from.B12 : List Nat := [0, 0, 2, 6, 14, 0, 32, 96, 224, 480, 992, 2046, 4095, 8191, 16383]
theorem impl_from.tab12 : rtab .any (opsOf Tryd.f53 12) = impl_from.T12 := by kernel_rfl
theorem impl_from.bits12 : waitsOk impl_from.T12.2 impl_from.B12 = true := by kernel_rfl
section
variable {P : Program} {ops : Array Oper} {Q : Exit → Act → World → Prop}
theorem goesV_ {oi : Oper} {N : Option Tmp} {a : Act} {w : World} {K : Act → World → Prop} {f : FuncId} {fn : Func} {caps : Array Value} {az : Array Operand} {ts : Array TypeId} {x : Operand} (hf : P.funcs[f]? = some fn) (hname : (fn.name == "runtime.NumGoroutine") = false) (hb : fn.body.isSome = true) (args : Array Value)
    (hw : Region.wanted oi (yielded ops a.tmps) = true) (hN : oi.dst = N) (hop : oi.op = .call { callee := .value x, args := az, argTypes := ts }) (hx : a.eval x = .func (.func f) #[] caps) (hargs : az.map a.eval = args)
    (h : Calls P f (args ++ caps) w fun e w' => ∃ v, e = .returned v ∧ K (a.put N v) w') : if Region.wanted oi (yielded ops a.tmps) = true then Oper.wp P oi a w K Q else K (a.put N undef) w := by
 (refine call_ f (args ++ caps) hw hN ?_ h); (have he := enters_ hf hname hb (args ++ caps) w); (unfold execOp); (simp [hop, resolve, Deferred.ofValue, invoke, hx, hargs, he])
end
/-- What is known of the visited function: what it holds lies at V, and it does a step. -/
def VisC {α : Type} (V : α → Res) (w0 : World) (fv : Nat) (caps : Array Value) (step : α → List Int → α × Bool) (m : Nat) : Prop :=
  ∃ fn, Tryd.prog.funcs[fv]? = some fn ∧ (fn.name == "runtime.NumGoroutine") = false ∧ fn.body.isSome = true ∧
    ∀ (a : α) (seq : List Int) (rest : List Res) (w : World) (A : Option Addr) (c : Nat), seq.length ≤ 60 → (∀ j ∈ seq, 0 ≤ j ∧ j < (m : Int)) → Sp w0 ([V a, Res.row kI 2 w0.heap.size (.slice A (seq).length c) (seq)] ++ rest) w →
      Calls Tryd.prog fv (#[.slice A seq.length c] ++ caps) w fun e w' => e = .returned (.bool (step a seq).2) ∧ Sp w0 ([V (step a seq).1, Res.row kI 2 w0.heap.size (.slice A (seq).length c) (seq)] ++ rest) w'
set_option maxHeartbeats 4000000 in
set_option maxRecDepth 100000 in
theorem impl_from.calls' {α : Type} (V : α → Res) (w0 : World) (fv : Nat) (caps : Array Value) (step : α → List Int → α × Bool) (ms : List Nat) (hV : VisC V w0 fv caps step ms.length) (hm : ∀ m ∈ ms, m < 2 ^ 60) (hn : ms.length ≤ 400) (req : Nat) (hr : req < 2 ^ 60) (hT : TabAt 0 Lib.deBruijn64tab w0) (g : Nat) (Am : Option Addr) (cm : Nat) (hcm : ms.length ≤ cm) (d : Nat) :
    ∀ (cv : Nat) (seq : List Int) (s : LS α) (w : World) (rest : List Res) (Aq : Option Addr) (cq : Nat), cv < 2 ^ 60 → (∀ j ∈ seq, 0 ≤ j ∧ j < (ms.length : Int)) → seq.length + d ≤ 60 → (leftM req cv).length ≤ d → (0 ≤ s.steps ∧ s.steps ≤ 20000) → s.ended = false → s.broken = false →
      Sp w0 ([Res.blk g #[.slice Am ms.length cm, .int .u64 (req : Int), .int .i64 (s.steps), .slice Aq (seq).length cq, .func (.func fv) #[] caps, .bool s.ended, .bool s.broken] 64, Res.row kU 62 w0.heap.size (.slice Am ms.length cm) (ms.map fun (m : Nat) => (m : Int)), Res.row kI 2 w0.heap.size (.slice Aq (seq).length cq) (seq), V (s.a)] ++ rest) w →
      Calls Tryd.prog 53 #[.pointer (some ⟨g, 0, none⟩), .int .u64 (cv : Int)] w fun e w' => e = .returned (.tuple #[]) ∧ ∃ Aq' cq', Sp w0 ([Res.blk g #[.slice Am ms.length cm, .int .u64 (req : Int), .int .i64 ((fromM ms req step d cv seq s).steps), .slice Aq' (seq).length cq', .func (.func fv) #[] caps, .bool (fromM ms req step d cv seq s).ended, .bool (fromM ms req step d cv seq s).broken] 64, Res.row kU 62 w0.heap.size (.slice Am ms.length cm) (ms.map fun (m : Nat) => (m : Int)), Res.row kI 2 w0.heap.size (.slice Aq' (seq).length cq') (seq), V ((fromM ms req step d cv seq s).a)] ++ rest) w' := by
  have HM := A0_ hm
  have HN := A0_ hn
  have HRQ := A0_ hr
  have HT := A0_ hT
  obtain ⟨fn, hfn, hnm, hbd, hcall⟩ := hV
  clear hm hn hr hT
  induction d using Nat.strongRecOn with
  | _ d ih0 =>
  intro cv seq s w rest Aq cq hcv hsq0 hd hlf hst hse hsb hsp
  rw [hse, hsb] at hsp
  have HS := A0_ hsp
  have HCV := A0_ hcv
  have HSQ0 := A0_ hsq0
  have HD := A0_ hd
  have HLF := A0_ hlf
  have HST := A0_ hst
  have HSL := A0_ (show seq.length ≤ 60 by omega)
  clear hsp hcv hsq0 hd hlf hst
  have hw : wrap64 (s.steps + 1) = s.steps + 1 := by have := HST.out; unfold wrap64; omega
  have hg_ := (Sp.blk HS.out (i := 0) rfl).1
  have hy2 : w.cell? ⟨g, 2, none⟩ = some (.int .i64 s.steps) := (blk_cell hg_ 2).trans rfl
  have hy3 : w.cell? ⟨g, 3, none⟩ = some (.slice Aq seq.length cq) := (blk_cell hg_ 3).trans rfl
  have hy4 : w.cell? ⟨g, 4, none⟩ = some (.func (.func fv) #[] caps) := (blk_cell hg_ 4).trans rfl
  have hy5 : w.cell? ⟨g, 5, none⟩ = some (.bool false) := (blk_cell hg_ 5).trans rfl
  have hy6 : w.cell? ⟨g, 6, none⟩ = some (.bool false) := (blk_cell hg_ 6).trans rfl
  have hz2 := blk_frozen hg_ 2
  have hz6 := blk_frozen hg_ 6
  clear hg_
  have HS1 := A0_ (Sp.set HS.out 0 rfl 2 (.int .i64 (s.steps + 1)) (blk_put (cs' := #[.slice Am ms.length cm, .int .u64 (req : Int), .int .i64 (s.steps + 1), .slice Aq (seq).length cq, .func (.func fv) #[] caps, .bool false, .bool false]) (Sp.blk HS.out (i := 0) rfl).1 2 _ rfl))
  by_cases c : s.steps = 20000
  · have cb : (s.steps == 20000) = true := beq_iff_eq.2 c
    rw [from_lim ms req step d cv seq s c, hse]
    clear ih0 HS1
    go_enter Tryd.func53, Tryd.ntmps53
    go_wp2
    first | go_end0 | ((try simp only [Exit.inBlock, Exit.then]); refine bodyPost_ret (results_none rfl _ _ _) rfl ?_)
    exact ⟨rfl, Aq, cq, Sp.set HS.out 0 rfl 6 (.bool true) (blk_put (cs' := #[.slice Am ms.length cm, .int .u64 (req : Int), .int .i64 (s.steps), .slice Aq (seq).length cq, .func (.func fv) #[] caps, .bool false, .bool true]) (Sp.blk HS.out (i := 0) rfl).1 6 _ rfl)⟩
  · have cb : (s.steps == 20000) = false := beq_eq_false_iff_ne.2 c
    by_cases cl : bestM ms req cv < 0
    · rw [from_leaf ms req step d cv seq s c cl, hsb]
      have clb : decide (bestM ms req cv < 0) = true := decide_eq_true cl
      clear ih0 cl
      go_enter Tryd.func53, Tryd.ntmps53
      go_wp2_with (first | (go_at_call 68; refine (impl_bestColumn.calls' ms HM.out HN.out req cv HRQ.out HCV.out _ (fun j hj => pw_cell_below HS1.out.below (HT.out j hj)) g Am cm (by have := (Sp.reads HS1.out (i := 1) rfl).2.2; rwa [List.length_map] at this) hcm ((blk_cell (Sp.blk HS1.out (i := 0) rfl).1 0).trans rfl) ((blk_cell (Sp.blk HS1.out (i := 0) rfl).1 1).trans rfl)).mono ?_; rintro e w1 ⟨rfl, hb⟩; have HS_ := A0_ (Sp.far HS1.out hb); clear HS1 HS hb hy2 hy3 hy4 hy5 hy6 hz2 hz6; have HS := HS_; clear HS_; have hy0 := (blk_cell (Sp.blk HS.out (i := 0) rfl).1 0).trans rfl; (try rw [HCE.out])))
      have HS_ := A0_ (Sp.drew HS.out)
      clear HS
      have HS := HS_
      clear HS_
      refine start_ (n := 14) (S := fun w' => w'.cell? ⟨g, 3, none⟩ = some (.slice Aq seq.length cq) ∧ w'.cell? ⟨g, 4, none⟩ = some (.func (.func fv) #[] caps)) (ds := [13]) #[ff,ff,ff,ff,ff,ff,ff,ff,ff,ff,ff,ff,ff,ff] (by kernel_rfl) rfl rfl (⟨(blk_cell (Sp.blk HS.out (i := 0) rfl).1 3).trans rfl, (blk_cell (Sp.blk HS.out (i := 0) rfl).1 4).trans rfl⟩) (fun hHeld => ?_)
      refine with_tabW impl_from.tab5 impl_from.bits5 (fun HT_ HW_ => ?_)
      generalize w1.drew = wD at HS hHeld ⊢
      refine pure_ (i := 0) (N := some 27) (v := ?_) (a' := ?_) #[tt,ff,ff,ff,ff,ff,ff,ff,ff,ff,ff,ff,ff,ff] rfl rfl (any_of HT_.out (by kernel_rfl)) (fun _ _ _ h => h) (Or.inl ⟨by rfl, ?_⟩) ?_ ?_
      rotate_left
      · intro w'
        go_simp
        with_reducible rfl
      rotate_left
      · simp only [Act.put, sia_, sz_, ss_, i64_w, i32_w]
        rfl
      refine pure_ (i := 1) (N := some 28) (v := ?_) (a' := ?_) #[tt,tt,ff,ff,ff,ff,ff,ff,ff,ff,ff,ff,ff,ff] rfl rfl (any_of HT_.out (by kernel_rfl)) (fun _ _ _ h => h) (Or.inl ⟨by rfl, ?_⟩) ?_ ?_
      rotate_left
      · intro w'
        go_simp
        with_reducible rfl
      rotate_left
      · simp only [Act.put, sia_, sz_, ss_, i64_w, i32_w]
        rfl
      refine pure_ (i := 2) (N := some 29) (v := ?_) (a' := ?_) #[tt,tt,tt,ff,ff,ff,ff,ff,ff,ff,ff,ff,ff,ff] rfl rfl (any_of HT_.out (by kernel_rfl)) (fun _ _ _ h => h) (Or.inl ⟨by rfl, ?_⟩) ?_ ?_
      rotate_left
      · intro w'
        go_simp
        with_reducible rfl
      rotate_left
      · simp only [Act.put, sia_, sz_, ss_, i64_w, i32_w]
        rfl
      refine pure_ (i := 3) (N := some 30) (v := ?_) (a' := ?_) #[tt,tt,tt,tt,ff,ff,ff,ff,ff,ff,ff,ff,ff,ff] rfl rfl (any_of HT_.out (by kernel_rfl)) (fun _ _ _ h => h) (Or.inl ⟨by rfl, ?_⟩) ?_ ?_
      rotate_left
      · intro w'
        go_simp
        with_reducible rfl
      rotate_left
      · simp only [Act.put, sia_, sz_, ss_, i64_w, i32_w]
        rfl
      refine take_ (i := 4) (N := some 31) (v := ?_) (a' := ?_) #[tt,tt,tt,tt,tt,ff,ff,ff,ff,ff,ff,ff,ff,ff] rfl rfl (take_ofW HT_.out HW_.out (by kernel_rfl)) (fun _ _ _ h => h) (Or.inl ⟨by rfl, ?_⟩) hHeld ?_ ?_
      rotate_left
      · rintro w' ⟨s0, s1⟩
        go_simp
        with_reducible rfl
      rotate_left
      · simp only [Act.put, sia_, sz_, ss_, i64_w, i32_w]
        rfl
      refine pure_ (i := 5) (N := some 32) (v := ?_) (a' := ?_) #[tt,tt,tt,tt,tt,tt,ff,ff,ff,ff,ff,ff,ff,ff] rfl rfl (any_of HT_.out (by kernel_rfl)) (fun _ _ _ h => h) (Or.inl ⟨by rfl, ?_⟩) ?_ ?_
      rotate_left
      · intro w'
        go_simp
        with_reducible rfl
      rotate_left
      · simp only [Act.put, sia_, sz_, ss_, i64_w, i32_w]
        rfl
      refine pure_ (i := 6) (N := some 33) (v := ?_) (a' := ?_) #[tt,tt,tt,tt,tt,tt,tt,ff,ff,ff,ff,ff,ff,ff] rfl rfl (any_of HT_.out (by kernel_rfl)) (fun _ _ _ h => h) (Or.inl ⟨by rfl, ?_⟩) ?_ ?_
      rotate_left
      · intro w'
        go_simp
        with_reducible rfl
      rotate_left
      · simp only [Act.put, sia_, sz_, ss_, i64_w, i32_w]
        rfl
      refine pure_ (i := 7) (N := some 34) (v := ?_) (a' := ?_) #[tt,tt,tt,tt,tt,tt,tt,tt,ff,ff,ff,ff,ff,ff] rfl rfl (any_of HT_.out (by kernel_rfl)) (fun _ _ _ h => h) (Or.inl ⟨by rfl, ?_⟩) ?_ ?_
      rotate_left
      · intro w'
        go_simp
        with_reducible rfl
      rotate_left
      · simp only [Act.put, sia_, sz_, ss_, i64_w, i32_w]
        rfl
      refine take_ (i := 8) (N := some 35) (v := ?_) (a' := ?_) #[tt,tt,tt,tt,tt,tt,tt,tt,tt,ff,ff,ff,ff,ff] rfl rfl (take_ofW HT_.out HW_.out (by kernel_rfl)) (fun _ _ _ h => h) (Or.inl ⟨by rfl, ?_⟩) hHeld ?_ ?_
      rotate_left
      · rintro w' ⟨s0, s1⟩
        go_simp
        with_reducible rfl
      rotate_left
      · simp only [Act.put, sia_, sz_, ss_, i64_w, i32_w]
        rfl
      refine one_ (i := 9) (N := some 36) #[tt,tt,tt,tt,tt,tt,tt,tt,tt,tt,ff,ff,ff,ff] rfl rfl (one_of HT_.out (by kernel_rfl)) (by decide) (fun K hK => ?_)
      have HS_ := A0_ (Sp.arr (pre := [Res.blk g #[.slice Am ms.length cm, .int .u64 (req : Int), .int .i64 (s.steps + 1), .slice Aq (seq).length cq, .func (.func fv) #[] caps, .bool false, .bool false] 64, Res.row kU 62 w0.heap.size (.slice Am ms.length cm) (ms.map fun (m : Nat) => (m : Int)), Res.row kI 2 w0.heap.size (.slice Aq (seq).length cq) (seq), V (s.a)]) (pre' := [V (s.a), Res.row kI 2 w0.heap.size (.slice Aq (seq).length cq) (seq), Res.blk g #[.slice Am ms.length cm, .int .u64 (req : Int), .int .i64 (s.steps + 1), .slice Aq (seq).length cq, .func (.func fv) #[] caps, .bool false, .bool false] 64, Res.row kU 62 w0.heap.size (.slice Am ms.length cm) (ms.map fun (m : Nat) => (m : Int))]) (rest := rest) [3, 2, 0, 1] HS.out rfl rfl)
      clear HS
      have HS := HS_
      clear HS_
      refine goesV_ hfn hnm hbd #[.slice Aq seq.length cq] (by rfl) rfl rfl rfl (by (try simp only [List.map_toArray, List.map_cons, List.map_nil]); first | done | rfl | (simp only [List.length_drop, List.length_take]; rfl)) ?_
      refine (hcall s.a seq ([Res.blk g #[.slice Am ms.length cm, .int .u64 (req : Int), .int .i64 (s.steps + 1), .slice Aq (seq).length cq, .func (.func fv) #[] caps, .bool false, .bool false] 64, Res.row kU 62 w0.heap.size (.slice Am ms.length cm) (ms.map fun (m : Nat) => (m : Int))] ++ rest) _ Aq cq HSL.out HSQ0.out HS.out).mono ?_
      rintro e wB ⟨rfl, hs_⟩
      refine ⟨_, rfl, ?_⟩
      have HS_ := A0_ hs_
      clear HS hs_
      have HS := HS_
      clear HS_
      refine hK.out _ _ (⟨(blk_cell (Sp.blk HS.out (i := 2) rfl).1 3).trans rfl, (blk_cell (Sp.blk HS.out (i := 2) rfl).1 4).trans rfl⟩) (fun hHeld => ?_)
      clear hK K
      refine norm_ (a' := ?_) ?_ ?_
      rotate_left
      · show Act.put _ (some 36) _ = _
        simp only [Act.put, sia_, sz_, ss_, i64_w, i32_w]
        rfl
      refine pure_ (i := 10) (N := some 37) (v := ?_) (a' := ?_) #[tt,tt,tt,tt,tt,tt,tt,tt,tt,tt,tt,ff,ff,ff] rfl rfl (any_of HT_.out (by kernel_rfl)) (fun _ _ _ h => h) (Or.inl ⟨by rfl, ?_⟩) ?_ ?_
      rotate_left
      · intro w'
        go_simp
        with_reducible rfl
      rotate_left
      · simp only [Act.put, sia_, sz_, ss_, i64_w, i32_w]
        rfl
      refine pure_ (i := 11) (N := some 38) (v := ?_) (a' := ?_) #[tt,tt,tt,tt,tt,tt,tt,tt,tt,tt,tt,tt,ff,ff] rfl rfl (any_of HT_.out (by kernel_rfl)) (fun _ _ _ h => h) (Or.inl ⟨by rfl, ?_⟩) ?_ ?_
      rotate_left
      · intro w'
        go_simp
        with_reducible rfl
      rotate_left
      · simp only [Act.put, sia_, sz_, ss_, i64_w, i32_w]
        rfl
      refine pure_ (i := 12) (N := some 39) (v := ?_) (a' := ?_) #[tt,tt,tt,tt,tt,tt,tt,tt,tt,tt,tt,tt,tt,ff] rfl rfl (any_of HT_.out (by kernel_rfl)) (fun _ _ _ h => h) (Or.inl ⟨by rfl, ?_⟩) ?_ ?_
      rotate_left
      · intro w'
        go_simp
        with_reducible rfl
      rotate_left
      · simp only [Act.put, sia_, sz_, ss_, i64_w, i32_w]
        rfl
      refine last_ (i := 13) (N := none) #[tt,tt,tt,tt,tt,tt,tt,tt,tt,tt,tt,tt,tt,tt] rfl rfl (one_of HT_.out (by kernel_rfl)) (by decide) (fun K hK => ?_)
      have hz_ := blk_frozen (Sp.blk HS.out (i := 2) rfl).1 5
      have hy_ : wB.cell? ⟨g, 5, none⟩ = some (.bool false) := (blk_cell (Sp.blk HS.out (i := 2) rfl).1 5).trans rfl
      refine skip_ (w1 := wB.setCell ⟨g, 5, none⟩ (.bool (!(step s.a seq).2))) (by rfl) rfl (by first | (go_simp; done) | (go_simp; rfl)) ?_
      have HS_ := A0_ (Sp.set HS.out 2 rfl 5 (.bool (!(step s.a seq).2)) (blk_put (cs' := #[.slice Am ms.length cm, .int .u64 (req : Int), .int .i64 (s.steps + 1), .slice Aq (seq).length cq, .func (.func fv) #[] caps, .bool (!(step s.a seq).2), .bool false]) (Sp.blk HS.out (i := 2) rfl).1 5 _ rfl))
      clear HS
      have HS := HS_
      clear HS_
      clear hz_ hy_
      refine hK.out _ _ ?_
      clear hK K
      refine done_ (done_of HT_.out (by kernel_rfl)) ?_
      have HS_ := A0_ (Sp.arr (pre := [V ((step s.a seq).1), Res.row kI 2 w0.heap.size (.slice Aq (seq).length cq) (seq), Res.blk g #[.slice Am ms.length cm, .int .u64 (req : Int), .int .i64 (s.steps + 1), .slice Aq (seq).length cq, .func (.func fv) #[] caps, .bool (!(step s.a seq).2), .bool false] 64, Res.row kU 62 w0.heap.size (.slice Am ms.length cm) (ms.map fun (m : Nat) => (m : Int))]) (pre' := [Res.blk g #[.slice Am ms.length cm, .int .u64 (req : Int), .int .i64 (s.steps + 1), .slice Aq (seq).length cq, .func (.func fv) #[] caps, .bool (!(step s.a seq).2), .bool false] 64, Res.row kU 62 w0.heap.size (.slice Am ms.length cm) (ms.map fun (m : Nat) => (m : Int)), Res.row kI 2 w0.heap.size (.slice Aq (seq).length cq) (seq), V ((step s.a seq).1)]) (rest := rest) [2, 3, 1, 0] HS.out rfl rfl)
      clear HS
      have HS := HS_
      clear HS_
      try go_wp2
      first | go_end0 | ((try simp only [Exit.inBlock, Exit.then]); refine bodyPost_ret (results_none rfl _ _ _) rfl ?_)
      exact ⟨rfl, Aq, cq, HS.out⟩
    · have hbm := best_mem ms req cv (by omega)
      have h1 : 1 ≤ d := by have := HLF.out; have := List.length_pos_of_mem hbm; omega
      obtain ⟨d, rfl⟩ : ∃ d', d = d' + 1 := ⟨d - 1, by omega⟩
      rw [from_kids ms req step d cv seq s c cl]
      obtain ⟨col, hcol⟩ : ∃ col, col = bestM ms req cv := ⟨_, rfl⟩
      rw [← hcol] at hbm cl ⊢
      have HCE := A0_ hcol.symm
      obtain ⟨R, hRe⟩ : ∃ R, R = foldL (fun n => fromM ms req step d n.1 n.2) (kidsFrom ms cv seq col 0) ⟨s.steps + 1, s.ended, s.broken, s.a⟩ := ⟨_, rfl⟩
      rw [← hRe]
      have HR0 := A0_ hRe.symm
      rw [hse, hsb] at HR0
      have HBM := A0_ hbm
      have IH := A0_ (ih0 d (by omega))
      have HCL := A0_ (show 0 ≤ col by omega)
      have clb : decide (col < 0) = false := decide_eq_false cl
      have HCB := A0_ (show col.toNat < 64 from left_lt req cv _ hbm)
      have HSS0 := A0_ (show (0 ≤ s.steps + 1 ∧ s.steps + 1 ≤ 20000) from by have := HST.out; omega)
      clear ih0 hRe hbm h1 hcol cl
      go_enter Tryd.func53, Tryd.ntmps53
      go_wp2_with (first | (go_at_call 68; refine (impl_bestColumn.calls' ms HM.out HN.out req cv HRQ.out HCV.out _ (fun j hj => pw_cell_below HS1.out.below (HT.out j hj)) g Am cm (by have := (Sp.reads HS1.out (i := 1) rfl).2.2; rwa [List.length_map] at this) hcm ((blk_cell (Sp.blk HS1.out (i := 0) rfl).1 0).trans rfl) ((blk_cell (Sp.blk HS1.out (i := 0) rfl).1 1).trans rfl)).mono ?_; rintro e w1 ⟨rfl, hb⟩; have HS_ := A0_ (Sp.far HS1.out hb); clear HS1 HS hb hy2 hy3 hy4 hy5 hy6 hz2 hz6; have HS := HS_; clear HS_; have hy0 := (blk_cell (Sp.blk HS.out (i := 0) rfl).1 0).trans rfl; (try rw [HCE.out])))
      go_loopg [45] (ms.length + 1) (fun kq v45 w' => ∃ (i : Nat) (s' : LS α) (A5 : Option Addr) (c5 : Nat), v45 = .int .i64 (i : Int) ∧ Aside0 (i ≤ ms.length ∧ kq + i = ms.length + 1) ∧ Aside0 ((0 ≤ s'.steps ∧ s'.steps ≤ 20000) ∧ s'.ended = false ∧ s'.broken = false) ∧ Aside0 (foldL (fun n => fromM ms req step d n.1 n.2) (kidsFrom ms cv seq col i) s' = R) ∧ Aside0 (Sp w0 ([Res.blk g #[.slice Am ms.length cm, .int .u64 (req : Int), .int .i64 (s'.steps), .slice A5 (seq).length c5, .func (.func fv) #[] caps, .bool false, .bool false] 64, Res.row kU 62 w0.heap.size (.slice Am ms.length cm) (ms.map fun (m : Nat) => (m : Int)), Res.row kI 2 w0.heap.size (.slice A5 (seq).length c5) (seq), V (s'.a)] ++ rest) w'))
      case atStart => exact ⟨0, ⟨s.steps + 1, false, false, s.a⟩, Aq, cq, rfl, ⟨by omega, by omega⟩, ⟨HSS0.out, rfl, rfl⟩, HR0, HS⟩
      case round =>
        clear HS HSS0 HR0
        obtain ⟨i, s', A5, c5, rfl, HX, HSS, HR, HS⟩ := hrel
        obtain ⟨k1, rfl⟩ : ∃ k1, gk = k1 + 1 := ⟨gk - 1, by have := HX.out; omega⟩
        by_cases ci : i < ms.length
        · have ci0 : decide (i < ms.length) = true := decide_eq_true ci
          have ci1 := eq_true ci
          have hml := (Sp.reads HS.out (i := 1) rfl).2.2
          obtain ⟨ad, e, hx⟩ := Kd.at_int hml (i : Int) (by omega) (by rw [List.length_map]; omega)
          cases e
          have er : rd (ms.map fun (m : Nat) => (m : Int)) (i : Int) = ((ms[i] : Nat) : Int) := by rw [rd_nat _ i (by rw [List.length_map]; exact ci)]; simp
          rw [er, Int.toNat_natCast] at hx
          obtain ⟨m, hmm⟩ : ∃ m, m = ms[i] := ⟨_, rfl⟩
          rw [← hmm] at hx
          have hm60 := HM.out ms[i] (List.getElem_mem ci)
          rw [← hmm] at hm60
          have two60 : (2 : Nat) ^ 60 < 18446744073709551616 := by decide
          have hcv60 := HCV.out
          have HC := A0_ ci
          have HWI := A0_ (wrap_succ i (by have := HN.out; have := HX.out; omega))
          have hkn := kids_next ms cv seq col i ci
          rw [takes_eq ms cv col i ci, ← hmm] at hkn
          clear er hml hmm ci
          have hcl0 : 0 ≤ col := HCL.out
          have hcl1 : col < 64 := by have := HCB.out; omega
          have hsh : ((m : Int) / 2 ^ col.toNat) = ((m >>> col.toNat : Nat) : Int) := test_shr m col hcl0
          have hlt : m >>> col.toNat < 18446744073709551616 := Nat.lt_of_le_of_lt (Nat.shiftRight_le m _) (by omega)
          have E1 : bits .and .u64 ((m : Int) / 2 ^ col.toNat) 1 = (((m >>> col.toNat) &&& 1 : Nat) : Int) := by rw [hsh]; exact u64_and_nat _ 1 hlt (by decide)
          rw [bit_and] at E1
          have E2 := A0_ (u64_and_nat m cv (by omega) (by omega))
          have hcu : IntKind.u64.wrap col = col := by rw [IntKind.wrap_u64]; omega
          have HCU := A0_ hcu
          clear hsh hlt hcu
          by_cases ct : m.testBit col.toNat = true
          · rw [if_pos ct] at E1
            have E1 := A0_ E1
            by_cases cm0 : m &&& cv = 0
            · rw [cm0] at E2
              rw [ct, cm0, if_pos (show (true && ((0 : Nat) == 0)) = true from rfl)] at hkn
              have HCV2 := A0_ (show cv ||| m < 2 ^ 60 from Nat.or_lt_two_pow hcv60 hm60)
              have HOR := A0_ (u64_or_nat cv m (by omega) (by omega))
              obtain ⟨sq2, hsq⟩ : ∃ sq2, sq2 = seq ++ [(i : Int)] := ⟨_, rfl⟩
              rw [← hsq] at hkn
              have HSQ := A0_ hsq
              have HSQ2 := A0_ (show ∀ j ∈ sq2, 0 ≤ j ∧ j < (ms.length : Int) from fun j hj => by rw [hsq, List.mem_append, List.mem_singleton] at hj; rcases hj with hj | rfl; exact HSQ0.out j hj; exact ⟨by omega, by have := HC.out; omega⟩)
              have HD2 := A0_ (show sq2.length + d ≤ 60 by have := HD.out; rw [hsq, List.length_append, List.length_singleton]; omega)
              have HL2 := A0_ (show (leftM req (cv ||| m)).length ≤ d by have := left_less req cv m _ HBM.out ct; have := HLF.out; omega)
              obtain ⟨R1, hR1⟩ : ∃ R1, R1 = fromM ms req step d (cv ||| m) sq2 s' := ⟨_, rfl⟩
              have HR1 := A0_ hR1.symm
              have HR2 := A0_ (show (if stopL R1 = true then R1 else foldL (fun n => fromM ms req step d n.1 n.2) (kidsFrom ms cv seq col (i + 1)) R1) = R from by rw [hR1, ← HR.out, hkn]; rfl)
              have hg_ := (Sp.blk HS.out (i := 0) rfl).1
              have hy3 : wr.cell? ⟨g, 3, none⟩ = some (.slice A5 seq.length c5) := (blk_cell hg_ 3).trans rfl
              have hz3 := blk_frozen hg_ 3
              have hsl : ((sq2.length : Nat) : Int) - 1 = (seq.length : Int) := by rw [hsq]; simp
              have HSL2 := A0_ hsl
              have HW2 := A0_ (show wrap64 ((sq2.length : Int) - 1) = (seq.length : Int) by rw [hsl]; have := HSL.out; unfold wrap64; omega)
              have HS2L := A0_ (show seq.length ≤ sq2.length by omega)
              clear hg_ hkn hR1 HR ct cm0 hsq hsl
              go_wp2_with (first
                | rw [E1.out] | rw [E2.out] | rw [HOR.out]
                | ((with_reducible refine gate_builtin (b := .append) (xs := #[.tmp 66, .tmp 68]) rfl ?_); at_builtin; obtain ⟨fp_, ho_, hf_, hc_⟩ := Sp.row HS.out (i := 2) rfl; refine Kd.R_append kI (w0 := w0) w0.heap.size rfl (.tmp 66) (.tmp 68) 32 2 (.int .i64 0) 8 rfl Tryd.underlying32 info2 rfl (by decide) (by omega) (.slice A5 seq.length c5) seq (i : Int) [.int .i64 (i : Int)] (fun k => fp_ k ∨ wr.heap.size ≤ k) (fun _ => False) rfl rfl rfl (fun _ hk => hk.elim) (fun _ h => .inr h) ho_ HS.out.below HS.out.below.size ?aL ?_; (case aL => have := HD.out; omega); intro v1 w2 ho hb hg hat; rw [← HSQ.out] at ho; have HS2 := A0_ (hc_ _ _ _ ho hg); clear ho hb hg hat hc_ hf_ ho_ hy3 hz3 HS fp_; obtain ⟨A6, c6, e2⟩ := Sp.slice HS2.out (i := 2) rfl; subst e2; have hg_ := (Sp.blk HS2.out (i := 0) rfl).1; have hy3 := (blk_cell hg_ 3).trans rfl; have hz3 := blk_frozen hg_ 3; clear hg_; have HS3 := A0_ (Sp.set HS2.out 0 rfl 3 (.slice A6 sq2.length c6) (blk_put (cs' := #[.slice (some ad) ms.length cm, .int .u64 (req : Int), .int .i64 (s'.steps), .slice A6 (sq2).length c6, .func (.func fv) #[] caps, .bool false, .bool false]) (Sp.blk HS2.out (i := 0) rfl).1 3 _ rfl)); clear HS2)
                | (go_at_call 53; refine (IH.out (cv ||| m) sq2 s' _ rest A6 c6 HCV2.out HSQ2.out HD2.out HL2.out HSS.out.1 HSS.out.2.1 HSS.out.2.2 (by have := HS3.out; rw [HSS.out.2.1, HSS.out.2.2]; exact this)).mono ?_; rintro e wB ⟨rfl, A7, c7, hs_⟩; have HS := A0_ hs_; clear HS3 hs_))
              rw [HR1.out] at HS
              have HCAP := A0_ (Sp.reads HS.out (i := 2) rfl).2.1
              have HS_ := A0_ (Sp.drew HS.out)
              clear HS
              have HS := HS_
              clear HS_
              refine start_ (n := 15) (S := fun w' => w'.cell? ⟨g, 3, none⟩ = some (.slice A7 sq2.length c7)) (ds := [14]) #[ff,ff,ff,ff,ff,ff,ff,ff,ff,ff,ff,ff,ff,ff,ff] (by kernel_rfl) rfl rfl ((blk_cell (Sp.blk HS.out (i := 0) rfl).1 3).trans rfl) (fun hHeld => ?_)
              refine with_tabW impl_from.tab12 impl_from.bits12 (fun HT_ HW_ => ?_)
              generalize wB.drew = wD at HS hHeld ⊢
              refine pure_ (i := 0) (N := some 77) (v := ?_) (a' := ?_) #[tt,ff,ff,ff,ff,ff,ff,ff,ff,ff,ff,ff,ff,ff,ff] rfl rfl (any_of HT_.out (by kernel_rfl)) (fun _ _ _ h => h) (Or.inl ⟨by rfl, ?_⟩) ?_ ?_
              rotate_left
              · intro w'
                go_simp
                with_reducible rfl
              rotate_left
              · simp only [Act.put, sia_, sz_, ss_, i64_w, i32_w]
                rfl
              refine pure_ (i := 1) (N := some 78) (v := ?_) (a' := ?_) #[tt,tt,ff,ff,ff,ff,ff,ff,ff,ff,ff,ff,ff,ff,ff] rfl rfl (any_of HT_.out (by kernel_rfl)) (fun _ _ _ h => h) (Or.inl ⟨by rfl, ?_⟩) ?_ ?_
              rotate_left
              · intro w'
                go_simp
                with_reducible rfl
              rotate_left
              · simp only [Act.put, sia_, sz_, ss_, i64_w, i32_w]
                rfl
              refine pure_ (i := 2) (N := some 79) (v := ?_) (a' := ?_) #[tt,tt,tt,ff,ff,ff,ff,ff,ff,ff,ff,ff,ff,ff,ff] rfl rfl (any_of HT_.out (by kernel_rfl)) (fun _ _ _ h => h) (Or.inl ⟨by rfl, ?_⟩) ?_ ?_
              rotate_left
              · intro w'
                go_simp
                with_reducible rfl
              rotate_left
              · simp only [Act.put, sia_, sz_, ss_, i64_w, i32_w]
                rfl
              refine pure_ (i := 3) (N := some 80) (v := ?_) (a' := ?_) #[tt,tt,tt,tt,ff,ff,ff,ff,ff,ff,ff,ff,ff,ff,ff] rfl rfl (any_of HT_.out (by kernel_rfl)) (fun _ _ _ h => h) (Or.inl ⟨by rfl, ?_⟩) ?_ ?_
              rotate_left
              · intro w'
                go_simp
                with_reducible rfl
              rotate_left
              · simp only [Act.put, sia_, sz_, ss_, i64_w, i32_w]
                rfl
              refine take_ (i := 4) (N := some 81) (v := ?_) (a' := ?_) #[tt,tt,tt,tt,tt,ff,ff,ff,ff,ff,ff,ff,ff,ff,ff] rfl rfl (take_ofW HT_.out HW_.out (by kernel_rfl)) (fun _ _ _ h => h) (Or.inl ⟨by rfl, ?_⟩) hHeld ?_ ?_
              rotate_left
              · rintro w' s0
                go_simp
                with_reducible rfl
              rotate_left
              · simp only [Act.put, sia_, sz_, ss_, i64_w, i32_w]
                rfl
              refine pure_ (i := 5) (N := some 82) (v := ?_) (a' := ?_) #[tt,tt,tt,tt,tt,tt,ff,ff,ff,ff,ff,ff,ff,ff,ff] rfl rfl (any_of HT_.out (by kernel_rfl)) (fun _ _ _ h => h) (Or.inl ⟨by rfl, ?_⟩) ?_ ?_
              rotate_left
              · intro w'
                go_simp
                with_reducible rfl
              rotate_left
              · simp only [Act.put, sia_, sz_, ss_, i64_w, i32_w]
                rfl
              refine pure_ (i := 6) (N := some 83) (v := ?_) (a' := ?_) #[tt,tt,tt,tt,tt,tt,tt,ff,ff,ff,ff,ff,ff,ff,ff] rfl rfl (any_of HT_.out (by kernel_rfl)) (fun _ _ _ h => h) (Or.inl ⟨by rfl, ?_⟩) ?_ ?_
              rotate_left
              · intro w'
                go_simp
                with_reducible rfl
              rotate_left
              · simp only [Act.put, sia_, sz_, ss_, i64_w, i32_w]
                rfl
              refine pure_ (i := 7) (N := some 84) (v := ?_) (a' := ?_) #[tt,tt,tt,tt,tt,tt,tt,tt,ff,ff,ff,ff,ff,ff,ff] rfl rfl (any_of HT_.out (by kernel_rfl)) (fun _ _ _ h => h) (Or.inl ⟨by rfl, ?_⟩) ?_ ?_
              rotate_left
              · intro w'
                go_simp
                with_reducible rfl
              rotate_left
              · simp only [Act.put, sia_, sz_, ss_, i64_w, i32_w]
                rfl
              refine take_ (i := 8) (N := some 85) (v := ?_) (a' := ?_) #[tt,tt,tt,tt,tt,tt,tt,tt,tt,ff,ff,ff,ff,ff,ff] rfl rfl (take_ofW HT_.out HW_.out (by kernel_rfl)) (fun _ _ _ h => h) (Or.inl ⟨by rfl, ?_⟩) hHeld ?_ ?_
              rotate_left
              · rintro w' s0
                go_simp
                with_reducible rfl
              rotate_left
              · simp only [Act.put, sia_, sz_, ss_, i64_w, i32_w]
                rfl
              refine pure_ (i := 9) (N := some 86) (v := ?_) (a' := ?_) #[tt,tt,tt,tt,tt,tt,tt,tt,tt,tt,ff,ff,ff,ff,ff] rfl rfl (any_of HT_.out (by kernel_rfl)) (fun _ _ _ h => h) (Or.inl ⟨by rfl, ?_⟩) ?_ ?_
              rotate_left
              · intro w'
                go_simp
                with_reducible rfl
              rotate_left
              · simp only [Act.put, sia_, sz_, ss_, i64_w, i32_w]
                rfl
              refine pure_ (i := 10) (N := some 87) (v := ?_) (a' := ?_) #[tt,tt,tt,tt,tt,tt,tt,tt,tt,tt,tt,ff,ff,ff,ff] rfl rfl (any_of HT_.out (by kernel_rfl)) (fun _ _ _ h => h) (Or.inl ⟨by rfl, ?_⟩) ?_ ?_
              rotate_left
              · intro w'
                go_simp
                with_reducible rfl
              rotate_left
              · simp only [Act.put, sia_, sz_, ss_, i64_w, i32_w]
                rfl
              refine pure_ (i := 11) (N := some 88) (v := ?_) (a' := ?_) #[tt,tt,tt,tt,tt,tt,tt,tt,tt,tt,tt,tt,ff,ff,ff] rfl rfl (any_of HT_.out (by kernel_rfl)) (fun _ _ _ h => h) (Or.inl ⟨by rfl, ?_⟩) ?_ ?_
              rotate_left
              · intro w'
                have hq1 := HW2.out
                have hq2 : seq.length ≤ c7 := Nat.le_trans HS2L.out HCAP.out
                have hq3 : (seq.length : Int) ≤ (c7 : Int) := Int.ofNat_le.2 hq2
                go_simp
                with_reducible rfl
              rotate_left
              · simp only [Act.put, sia_, sz_, ss_, i64_w, i32_w]
                rfl
              refine pure_ (i := 12) (N := some 89) (v := ?_) (a' := ?_) #[tt,tt,tt,tt,tt,tt,tt,tt,tt,tt,tt,tt,tt,ff,ff] rfl rfl (any_of HT_.out (by kernel_rfl)) (fun _ _ _ h => h) (Or.inl ⟨by rfl, ?_⟩) ?_ ?_
              rotate_left
              · intro w'
                go_simp
                with_reducible rfl
              rotate_left
              · simp only [Act.put, sia_, sz_, ss_, i64_w, i32_w]
                rfl
              refine pure_ (i := 13) (N := some 90) (v := ?_) (a' := ?_) #[tt,tt,tt,tt,tt,tt,tt,tt,tt,tt,tt,tt,tt,tt,ff] rfl rfl (any_of HT_.out (by kernel_rfl)) (fun _ _ _ h => h) (Or.inl ⟨by rfl, ?_⟩) ?_ ?_
              rotate_left
              · intro w'
                go_simp
                with_reducible rfl
              rotate_left
              · simp only [Act.put, sia_, sz_, ss_, i64_w, i32_w]
                rfl
              refine last_ (i := 14) (N := none) #[tt,tt,tt,tt,tt,tt,tt,tt,tt,tt,tt,tt,tt,tt,tt] rfl rfl (one_of HT_.out (by kernel_rfl)) (by decide) (fun K hK => ?_)
              have hz_ := blk_frozen (Sp.blk HS.out (i := 0) rfl).1 3
              have hy_ : wD.cell? ⟨g, 3, none⟩ = some (.slice A7 sq2.length c7) := (blk_cell (Sp.blk HS.out (i := 0) rfl).1 3).trans rfl
              refine skip_ (w1 := wD.setCell ⟨g, 3, none⟩ (.slice A7 seq.length c7)) (by rfl) rfl (by first | (go_simp; done) | (go_simp; rfl)) ?_
              have HS_ := A0_ (Sp.set HS.out 0 rfl 3 (.slice A7 seq.length c7) (blk_put (cs' := #[.slice (some ad) ms.length cm, .int .u64 (req : Int), .int .i64 (R1.steps), .slice A7 (seq).length c7, .func (.func fv) #[] caps, .bool R1.ended, .bool R1.broken]) (Sp.blk HS.out (i := 0) rfl).1 3 _ rfl))
              clear HS
              have HS := HS_
              clear HS_
              clear hz_ hy_
              refine hK.out _ _ ?_
              clear hK K
              refine done_ (done_of HT_.out (by kernel_rfl)) ?_
              have HS_ := A0_ (Sp.take HS.out (i := 2) rfl seq.length (by rw [HSQ.out]; simp))
              clear HS
              have HS := HS_
              clear HS_
              have HS_ := A0_ (show Sp w0 ([Res.blk g #[.slice (some ad) ms.length cm, .int .u64 (req : Int), .int .i64 (R1.steps), .slice A7 (seq).length c7, .func (.func fv) #[] caps, .bool R1.ended, .bool R1.broken] 64, Res.row kU 62 w0.heap.size (.slice (some ad) ms.length cm) (ms.map fun (m : Nat) => (m : Int)), Res.row kI 2 w0.heap.size (.slice A7 (seq).length c7) (seq), V (R1.a)] ++ rest) _ from by have := HS.out; have e_ : sq2.take seq.length = seq := (by rw [HSQ.out]; simp); rw [e_] at this; exact this)
              clear HS
              have HS := HS_
              clear HS_
              generalize (wD.setCell ⟨g, 3, none⟩ (.slice A7 seq.length c7)) = wE at HS ⊢
              have hg_ := (Sp.blk HS.out (i := 0) rfl).1
              have hy5 : wE.cell? ⟨g, 5, none⟩ = some (.bool R1.ended) := (blk_cell hg_ 5).trans rfl
              have hy6 : wE.cell? ⟨g, 6, none⟩ = some (.bool R1.broken) := (blk_cell hg_ 6).trans rfl
              clear hg_
              cases he : R1.ended with
              | true =>
                rw [he] at hy5
                go_wp2
                first | go_end0 | ((try simp only [Exit.inBlock, Exit.then]); refine bodyPost_ret (results_none rfl _ _ _) rfl ?_)
                have er : R = R1 := by rw [← HR2.out, if_pos (by unfold stopL; rw [he]; rfl)]
                subst er
                exact ⟨rfl, A7, c7, HS.out⟩
              | false =>
                rw [he] at hy5
                cases hk : R1.broken with
                | true =>
                  rw [hk] at hy6
                  go_wp2
                  first | go_end0 | ((try simp only [Exit.inBlock, Exit.then]); refine bodyPost_ret (results_none rfl _ _ _) rfl ?_)
                  have er : R = R1 := by rw [← HR2.out, if_pos (by unfold stopL; rw [he, hk]; rfl)]
                  subst er
                  exact ⟨rfl, A7, c7, HS.out⟩
                | false =>
                  rw [hk] at hy6
                  have HR3 := A0_ (show foldL (fun n => fromM ms req step d n.1 n.2) (kidsFrom ms cv seq col (i + 1)) R1 = R from by rw [← HR2.out, if_neg (by unfold stopL; rw [he, hk]; decide)])
                  rw [he, hk] at HS
                  go_wp2
                  go_roundg k1
                  case measure => omega
                  case rel =>
                    rw [HWI.out]
                    exact ⟨i + 1, R1, A7, c7, rfl, ⟨by have := HC.out; omega, by have := HX.out; omega⟩, ⟨by rw [← HR1.out]; exact from_steps ms req step d _ _ _ HSS.out.1, he, hk⟩, HR3, HS⟩
            · obtain ⟨p, hp⟩ : ∃ p, p = m &&& cv := ⟨_, rfl⟩
              rw [← hp] at E2 cm0
              have p0 : (p = 0) = False := eq_false cm0
              have cm1 := A0_ cm0
              have HK := A0_ (show foldL (fun n => fromM ms req step d n.1 n.2) (kidsFrom ms cv seq col (i + 1)) s' = foldL (fun n => fromM ms req step d n.1 n.2) (kidsFrom ms cv seq col i) s' by
                rw [hkn, if_neg (by rw [ct, ← hp]; simpa using cm0)])
              clear hkn hp cm0 ct
              have p1 : ((p : Int) != 0) = true := by simpa using cm1.out
              have p2 : (p != 0) = true := by simpa using cm1.out
              go_wp2_with (first | rw [E1.out] | rw [E2.out])
              go_roundg k1
              case measure => omega
              case rel =>
                rw [HWI.out]
                exact ⟨i + 1, s', A5, c5, rfl, ⟨by have := HC.out; omega, by have := HX.out; omega⟩, HSS, ⟨HK.out.trans HR.out⟩, HS⟩
          · have HK := A0_ (show foldL (fun n => fromM ms req step d n.1 n.2) (kidsFrom ms cv seq col (i + 1)) s' = foldL (fun n => fromM ms req step d n.1 n.2) (kidsFrom ms cv seq col i) s' by
              rw [hkn, if_neg (by rw [Bool.eq_false_iff.2 ct]; simp)])
            rw [if_neg ct] at E1
            have E1 := A0_ E1
            clear hkn ct
            go_wp2_with (first | rw [E1.out] | rw [E2.out])
            go_roundg k1
            case measure => omega
            case rel =>
              rw [HWI.out]
              exact ⟨i + 1, s', A5, c5, rfl, ⟨by have := HC.out; omega, by have := HX.out; omega⟩, HSS, ⟨HK.out.trans HR.out⟩, HS⟩
        · have ci0 : decide (i < ms.length) = false := decide_eq_false ci
          have hi : i = ms.length := by have := HX.out; omega
          have er : R = s' := by have := HR.out; rw [hi, kids_end] at this; exact this.symm
          have HER := A0_ er
          clear ci hi er
          go_wp2
          first | go_end0 | ((try simp only [Exit.inBlock, Exit.then]); refine bodyPost_ret (results_none rfl _ _ _) rfl ?_)
          rw [HER.out, HSS.out.2.1, HSS.out.2.2]
          exact ⟨rfl, A5, c5, HS.out⟩
end Go.Proofs.YtoglcgnbkibpgaaDoor.A

/- impl.searched, walked, for any visit; CountNodes and CountCovers of the program. -/
namespace Go.Proofs.YtoglcgnbkibpgaaDoor.A
open Go.RowKit Go.Proofs.YtoglcgnbkibpgaaDoorW.PrintWords Go.Proofs.YtoglcgnbkibpgaaDoorW.PrintLast Go.Proofs.YtoglcgnbkibpgaaDoorW.PrintMore Go.Proofs.YtoglcgnbkibpgaaDoorW.Cov Go.Proofs.YtoglcgnbkibpgaaDoorW.Tree
set_option linter.unusedVariables false
set_option linter.unusedSimpArgs false
/-- The code that the search's end gives. -/
def codeL (broken : Bool) : Int := if broken = true then 3 else 0
/-- The program's search at its end. -/
def endL {α : Type} (rows : List (List Int)) (Q : Int) (step : α → List Int → α × Bool) (a0 : α) : LS α := fromG (leafC rows Q.toNat) (kidsC rows Q.toNat) 20000 step Q.toNat [] ⟨0, false, false, a0⟩
theorem end_eq {α : Type} {C Q : Int} {rows : List (List Int)} (h : CovOk C Q rows) (step : α → List Int → α × Bool) (a0 : α) : fromM (rows.map maskOf) (2 ^ Q.toNat - 1) step Q.toNat 0 [] ⟨0, false, false, a0⟩ = endL rows Q step a0 :=
  from_same (rows := rows) (C := C.toNat) (Q := Q.toNat) ⟨fun r hr x hx => by have := h.ins r hr x hx; have := h.c1; omega, by have := h.c60; omega, by have := h.qc; omega⟩ 20000 step Q.toNat ⟨0, false, false, a0⟩
theorem left_all (q : Nat) (h : q ≤ 60) : (leftM (2 ^ q - 1) 0).length ≤ q := by
  unfold leftM bitsOf
  have e : (List.range 64).filter (fun k => ((2 ^ q - 1) ^^^ ((2 ^ q - 1) &&& 0)).testBit k) = (List.range 64).filter (fun k => decide (k < q)) := by
    apply List.filter_congr
    intro k _
    rw [Nat.and_zero, Nat.xor_zero, Nat.testBit_two_pow_sub_one]
  rw [e]
  obtain ⟨m, hm⟩ : ∃ m, 64 = q + m := ⟨64 - q, by omega⟩
  rw [hm, List.range_add, List.filter_append, List.length_append]
  have e2 : (List.map (fun x => q + x) (List.range m)).filter (fun k => decide (k < q)) = [] := by
    rw [List.filter_eq_nil_iff]
    intro k hk
    rw [List.mem_map] at hk
    obtain ⟨x, _, rfl⟩ := hk
    simp
  rw [e2]
  have := List.length_filter_le (fun k => decide (k < q)) (List.range q)
  simpa using this
theorem masks_cast (rows : List (List Int)) : masksI rows = (rows.map maskOf).map fun (m : Nat) => (m : Int) := by unfold masksI; rw [List.map_map]; rfl
section
variable {α : Type} (V : α → Res) (w0 : World) (fv : Nat) (caps : Array Value) (step : α → List Int → α × Bool) (a0 : α) (C Q : Int) (rows : List (List Int)) (A : Option Addr) (cA : Nat)
set_option maxHeartbeats 1000000 in
set_option maxRecDepth 100000 in
theorem impl_searched.bad (hR : kL.C w0 A rows.length rows) (hcA : rows.length ≤ cA) (hz : sizesOk rows) (hk : coverOk C Q rows = false) (w : World) (hb0 : Below w0.heap.size w0 w) :
    Calls Tryd.prog 44 #[.agg #[.int .i64 C, .int .i64 Q, .slice A rows.length cA], .func (.func fv) #[] caps] w fun e w' => e = .returned (.tuple #[.pointer none, .int .i64 1]) ∧ Below w.heap.size w w' := by
  have HK := A0_ (show impl_IsCover.f 0 C Q rows = some false by unfold impl_IsCover.f; rw [if_pos hz, hk])
  have HR := A0_ (Kd.C_below hR hb0)
  have HB0 := A0_ (below_alloc (Below.refl w.heap.size w) (.cells #[.int .i64 C, .int .i64 Q, .slice A rows.length cA] 28))
  clear hk hR hz
  go_enter Tryd.func44, Tryd.ntmps44
  go_wp2_with (first
    | (go_at_call 49; refine (impl_IsCover.calls 0 C Q A cA rows false _ (Kd.C_below HR.out HB0.out) hcA HK.out).mono ?_; rintro e w1 ⟨rfl, hb⟩; have HB := A0_ (below_step HB0.out hb); clear hb))
  go_ret2
  exact ⟨rfl, HB.out⟩
theorem impl_from.root (hV : VisC V w0 fv caps step rows.length) (hT : TabAt 0 Lib.deBruijn64tab w0) (hco : CovOk C Q rows) (rest : List Res) (g : Nat) (Am : Option Addr) (cm : Nat) (w : World)
    (hs : Sp w0 ([Res.blk g #[.slice Am rows.length cm, .int .u64 ((2 ^ Q.toNat - 1 : Nat) : Int), .int .i64 0, .slice none 0 0, .func (.func fv) #[] caps, .bool false, .bool false] 64, Res.row kU 62 w0.heap.size (.slice Am rows.length cm) (masksI rows)] ++ ([V a0] ++ rest)) w) :
    Calls Tryd.prog 53 #[.pointer (some ⟨g, 0, none⟩), .int .u64 0] w fun e w' => e = .returned (.tuple #[]) ∧ ∃ v0 v3 : Value,
      Sp w0 ([Res.blk g #[v0, .int .u64 ((2 ^ Q.toNat - 1 : Nat) : Int), .int .i64 (endL rows Q step a0).steps, v3, .func (.func fv) #[] caps, .bool (endL rows Q step a0).ended, .bool (endL rows Q step a0).broken] 64, V (endL rows Q step a0).a] ++ rest) w' := by
  have hq : Q.toNat ≤ 60 := by have := hco.c60; have := hco.qc; omega
  have hln : (rows.map maskOf).length = rows.length := List.length_map ..
  have hcm := (Sp.reads hs (i := 1) rfl).2.1
  have hm60 : ∀ m ∈ rows.map maskOf, m < 2 ^ 60 := fun m hm => by
    rw [List.mem_map] at hm
    obtain ⟨r, hr, rfl⟩ := hm
    exact maskOf_lt r 60 (fun x hx => by have := hco.ins r hr x hx; have := hco.c60; omega)
  have hrq : 2 ^ Q.toNat - 1 < 2 ^ 60 := by have := Nat.pow_le_pow_right (n := 2) (by decide) hq; have := Nat.two_pow_pos Q.toNat; omega
  have hn4 : (rows.map maskOf).length ≤ 400 := by rw [hln]; exact hco.n400
  have hcm2 : (rows.map maskOf).length ≤ cm := by rw [hln]; exact hcm
  have he := end_eq hco step a0
  generalize endL rows Q step a0 = R at he ⊢
  generalize hreq : 2 ^ Q.toNat - 1 = req at he hs hrq ⊢
  have hleft := left_all Q.toNat hq
  rw [hreq] at hleft
  rw [masks_cast, ← hln] at hs
  generalize rows.map maskOf = ms at *
  have h3 := Sp.made hs (Below.refl _ _) (Kd.R_nil kI 2 _ w0.heap.size _)
  have h4 := Sp.arr (pre := [Res.row kI 2 w0.heap.size (.slice none 0 0) [], Res.blk g #[.slice Am ms.length cm, .int .u64 (req : Int), .int .i64 0, .slice none 0 0, .func (.func fv) #[] caps, .bool false, .bool false] 64, Res.row kU 62 w0.heap.size (.slice Am ms.length cm) (ms.map fun (m : Nat) => (m : Int)), V a0]) (pre' := [Res.blk g #[.slice Am ms.length cm, .int .u64 (req : Int), .int .i64 0, .slice none 0 0, .func (.func fv) #[] caps, .bool false, .bool false] 64, Res.row kU 62 w0.heap.size (.slice Am ms.length cm) (ms.map fun (m : Nat) => (m : Int)), Res.row kI 2 w0.heap.size (.slice none 0 0) [], V a0]) (rest := rest) [1, 2, 0, 3] h3 rfl rfl
  have hc := impl_from.calls' V w0 fv caps step ms (by rw [hln]; exact hV) hm60 hn4 req hrq hT g Am cm hcm2 Q.toNat 0 [] ⟨0, false, false, a0⟩ w rest none 0 (Nat.two_pow_pos 60) (fun j hj => by simp at hj) (by rw [List.length_nil]; omega) hleft ⟨Int.le_refl _, by dsimp only; omega⟩ rfl rfl h4
  rw [he] at hc
  refine Calls.mono hc ?_
  rintro e w3 ⟨rfl, Aq, cq, hs_⟩
  exact ⟨rfl, _, _, Sp.out (Sp.out hs_ 2) 1⟩
set_option maxHeartbeats 2000000 in
set_option maxRecDepth 100000 in
theorem impl_searched.good (hV : VisC V w0 fv caps step rows.length) (hT : TabAt 0 Lib.deBruijn64tab w0) (hR : kL.C w0 A rows.length rows) (hcA : rows.length ≤ cA) (hz : sizesOk rows) (hk : coverOk C Q rows = true) (rest : List Res) (w : World) (hs : Sp w0 ([V a0] ++ rest) w) :
    Calls Tryd.prog 44 #[.agg #[.int .i64 C, .int .i64 Q, .slice A rows.length cA], .func (.func fv) #[] caps] w fun e w' => ∃ (g : Nat) (v0 v3 : Value), e = .returned (.tuple #[.pointer (some ⟨g, 0, none⟩), .int .i64 (codeL (endL rows Q step a0).broken)]) ∧
      Sp w0 ([Res.blk g #[v0, .int .u64 ((2 ^ Q.toNat - 1 : Nat) : Int), .int .i64 (endL rows Q step a0).steps, v3, .func (.func fv) #[] caps, .bool (endL rows Q step a0).ended, .bool (endL rows Q step a0).broken] 64, V (endL rows Q step a0).a] ++ rest) w' := by
  have hco := coverOk_spec hk
  have HCO := A0_ hco
  have HK := A0_ (show impl_IsCover.f 0 C Q rows = some true by unfold impl_IsCover.f; rw [if_pos hz, hk])
  have HR := A0_ hR
  have HVC := A0_ hV
  have HT := A0_ hT
  have HS0 := A0_ (Sp.alloc hs (.cells #[.int .i64 C, .int .i64 Q, .slice A rows.length cA] 28))
  obtain ⟨wA, hwA⟩ : ∃ wA, wA = w.alloc (.cells #[.int .i64 C, .int .i64 Q, .slice A rows.length cA] 28) := ⟨_, rfl⟩
  obtain ⟨gb, hgb⟩ : ∃ gb, gb = w.heap.size := ⟨_, rfl⟩
  have hblk := blk_new w (.cells #[.int .i64 C, .int .i64 Q, .slice A rows.length cA] 28)
  have HBK := A0_ hblk
  rw [← hwA, ← hgb] at HBK
  rw [← hwA] at HS0
  have HWA := A0_ hwA.symm
  have HGB := A0_ hgb.symm
  obtain ⟨R, hRe⟩ : ∃ R, R = endL rows Q step a0 := ⟨_, rfl⟩
  have HRE := A0_ hRe.symm
  rw [← hRe]
  clear hs hR hV hT hk hco hz hwA hgb hblk hRe
  go_enter Tryd.func44, Tryd.ntmps44
  go_wp2_with (first
    | (go_at_call 49; rw [HWA.out]; refine (impl_IsCover.calls 0 C Q A cA rows true _ (Kd.C_below HR.out HS0.out.below) hcA HK.out).mono ?_; rintro e w1 ⟨rfl, hb⟩; have HS1 := A0_ (Sp.far HS0.out hb); have hbk := A0_ (blk_below HBK.out hb); have hq0 := (blk_cell hbk.out 0).trans rfl; have hq1 := (blk_cell hbk.out 1).trans rfl; have hq2 := (blk_cell hbk.out 2).trans rfl; rw [HGB.out]; clear hb HS0)
    | (go_at_call 50; refine (impl_newCoverSearch.calls' HCO.out w0 A cA HR.out hcA fv caps _ _ HS1.out).mono ?_; rintro e w2 ⟨g, Am, cm, rfl, hs_⟩; have HS2 := A0_ hs_; clear hs_ HS1 hq0 hq1 hq2)
    | (go_at_call 53; refine (impl_from.root V w0 fv caps step a0 C Q rows HVC.out HT.out HCO.out rest g Am cm _ HS2.out).mono ?_; rintro e w3 ⟨rfl, v0, v3, hs_⟩; rw [HRE.out] at hs_; have HS5 := A0_ hs_; have hy6 := (blk_cell (Sp.blk hs_ (i := 0) rfl).1 6).trans rfl; clear hs_ HS2; cases hbr : R.broken <;> rw [hbr] at hy6))
  · go_ret2
    have h5 := HS5.out
    rw [hbr] at h5
    first | (rw [hbr]; exact ⟨g, v0, v3, rfl, h5⟩) | exact ⟨g, v0, v3, rfl, h5⟩
  · go_ret2
    have h5 := HS5.out
    rw [hbr] at h5
    first | (rw [hbr]; exact ⟨g, v0, v3, rfl, h5⟩) | exact ⟨g, v0, v3, rfl, h5⟩
end
end Go.Proofs.YtoglcgnbkibpgaaDoor.A

/- The program's CountNodes and CountCovers, walked. -/
namespace Go.Proofs.YtoglcgnbkibpgaaDoor.A
open Go.RowKit Go.Proofs.YtoglcgnbkibpgaaDoorW.PrintWords Go.Proofs.YtoglcgnbkibpgaaDoorW.PrintLast Go.Proofs.YtoglcgnbkibpgaaDoorW.PrintMore Go.Proofs.YtoglcgnbkibpgaaDoorW.Cov Go.Proofs.YtoglcgnbkibpgaaDoorW.Tree
set_option linter.unusedVariables false
set_option linter.unusedSimpArgs false
def stepN (_ : Unit) (_ : List Int) : Unit × Bool := ((), true)
end Go.Proofs.YtoglcgnbkibpgaaDoor.A




/- The program's IsForced, walked. -/
namespace Go.Proofs.YtoglcgnbkibpgaaDoor.A
open Go.RowKit Go.Proofs.YtoglcgnbkibpgaaDoorW.PrintWords Go.Proofs.YtoglcgnbkibpgaaDoorW.PrintLast Go.Proofs.YtoglcgnbkibpgaaDoorW.PrintMore Go.Proofs.YtoglcgnbkibpgaaDoorW.Cov Go.Proofs.YtoglcgnbkibpgaaDoorW.Tree
set_option linter.unusedVariables false
set_option linter.unusedSimpArgs false
theorem Sp.boxed {w0 w w1 : World} {rs : List Res} {g : Nat} {cs : Array Value} {t : Nat} (h : Sp w0 rs w) (hg : g = w.heap.size) (hc : w1.heap[g]? = some (.cells cs t (0, 0))) (hb : Below w.heap.size w w1) : Sp w0 (Res.blk g cs t :: rs) w1 :=
  h.push hb ⟨⟨by omega, blk_lt hc⟩, hc⟩
theorem Sp.pureIn {w0 w : World} {rs : List Res} {c : Prop} (h : Sp w0 rs w) (hc : c) : Sp w0 (Res.pure c :: rs) w := h.push (Below.refl _ _) hc
/-- What the closure has captured: the number of solutions and the counts. -/
def VG (gN gC base m : Nat) (a : Int × List Int) : Res := Res.ex (fun p : Option Addr × Nat => Res.star (Res.pure (a.2.length = m)) (Res.star (Res.blk gN #[.int .i64 a.1] 3) (Res.star (Res.row kI 3 base (.slice p.1 a.2.length p.2) a.2) (Res.blk gC #[.slice p.1 a.2.length p.2] 70))))
theorem vg_open {gN gC m : Nat} {w0 w : World} {a : Int × List Int} {rest : List Res} (h : Sp w0 (VG gN gC w0.heap.size m a :: rest) w) : a.2.length = m ∧ ∃ A c, Sp w0 (Res.row kI 3 w0.heap.size (.slice A a.2.length c) a.2 :: Res.blk gC #[.slice A a.2.length c] 70 :: Res.blk gN #[.int .i64 a.1] 3 :: rest) w := by
  obtain ⟨p, h1⟩ := Sp.ex_open h (i := 0) rfl
  obtain ⟨h2, h3⟩ := Sp.pure_open (Sp.star_open h1)
  have h4 := Sp.star_open (Sp.swap (Sp.star_open h3))
  exact ⟨h2, p.1, p.2, h4⟩
theorem vg_close {gN gC m : Nat} {w0 w : World} {a : Int × List Int} {A : Option Addr} {c : Nat} {rest : List Res} (hm : a.2.length = m) (h : Sp w0 (Res.row kI 3 w0.heap.size (.slice A a.2.length c) a.2 :: Res.blk gC #[.slice A a.2.length c] 70 :: Res.blk gN #[.int .i64 a.1] 3 :: rest) w) : Sp w0 (VG gN gC w0.heap.size m a :: rest) w := by
  have h1 := Sp.star_close (Sp.pureIn (Sp.star_close (Sp.swap (Sp.star_close h))) hm)
  exact Sp.ex_close (R := fun p : Option Addr × Nat => Res.star (Res.pure (a.2.length = m)) (Res.star (Res.blk gN #[.int .i64 a.1] 3) (Res.star (Res.row kI 3 w0.heap.size (.slice p.1 a.2.length p.2) a.2) (Res.blk gC #[.slice p.1 a.2.length p.2] 70)))) (A, c) h1 (i := 0) rfl
set_option maxHeartbeats 1000000 in
set_option maxRecDepth 100000 in
theorem visG (w0 : World) (gN gC m : Nat) : VisC (VG gN gC w0.heap.size m) w0 55 #[.pointer (some ⟨gN, 0, none⟩), .pointer (some ⟨gC, 0, none⟩)] stepF m := by
  refine ⟨_, Tryd.func55, by kernel_rfl, by kernel_rfl, ?_⟩
  intro a seq rest w A c hl hsq_ hs
  obtain ⟨hm, A1, c1, h1⟩ := vg_open hs
  have HS := A0_ h1
  have HL := A0_ hl
  have HM := A0_ hm
  have HSQ := A0_ hsq_
  have hyN := (blk_cell (Sp.blk HS.out (i := 2) rfl).1 0).trans rfl
  have hzN := blk_frozen (Sp.blk HS.out (i := 2) rfl).1 0
  clear hs h1 hl hm hsq_
  obtain ⟨n, cs⟩ := a
  dsimp only at HS HM hyN
  show Calls Tryd.prog 55 #[.slice A seq.length c, .pointer (some ⟨gN, 0, none⟩), .pointer (some ⟨gC, 0, none⟩)] w _
  go_enter Tryd.func55, Tryd.ntmps55
  go_wp2_with (first
    | ((with_reducible refine gate_store (t := 3) (p := 1) rfl ?_); refine store_event rfl rfl rfl (w1 := w.setCell ⟨gN, 0, none⟩ (.int .i64 (wrap64 (n + 1)))) (by first | (go_simp; done) | (go_simp; rfl)) ?_; intro w1 hw;
       have HS1 := A0_ (Sp.set HS.out 2 rfl 0 (.int .i64 (wrap64 (n + 1))) (blk_put (cs' := #[.int .i64 (wrap64 (n + 1))]) (Sp.blk HS.out (i := 2) rfl).1 0 _ rfl)); rw [← hw] at HS1; clear HS hw hyN hzN))
  have HS := A0_ (show Sp w0 ([Res.row kI 3 w0.heap.size (.slice A1 cs.length c1) (([] : List Int).foldl bumpF cs), Res.blk gC #[.slice A1 cs.length c1] 70, Res.blk gN #[.int .i64 (wrap64 (n + 1))] 3, Res.row kI 2 w0.heap.size (.slice A seq.length c) seq] ++ rest) w1 from HS1.out)
  clear HS1
  go_loopg [11] (seq.length + 1) (fun kq v11 w' => ∃ (j : Nat), v11 = .int .i64 (j : Int) ∧ Aside0 (j ≤ seq.length ∧ kq + j = seq.length + 1) ∧ Aside0 (Sp w0 ([Res.row kI 3 w0.heap.size (.slice A1 cs.length c1) ((seq.take j).foldl bumpF cs), Res.blk gC #[.slice A1 cs.length c1] 70, Res.blk gN #[.int .i64 (wrap64 (n + 1))] 3, Res.row kI 2 w0.heap.size (.slice A seq.length c) seq] ++ rest) w'))
  case atStart => exact ⟨0, rfl, ⟨by omega, by omega⟩, HS⟩
  case round =>
    clear HS
    obtain ⟨j, rfl, HX, HS⟩ := hrel
    obtain ⟨k1, rfl⟩ : ∃ k1, gk = k1 + 1 := ⟨gk - 1, by have := HX.out; omega⟩
    by_cases ci : j < seq.length
    · have ci0 : decide (j < seq.length) = true := decide_eq_true ci
      have q0 : (0 ≤ (j : Int)) = True := eq_true (by omega)
      have q1 : ((j : Int) < (seq.length : Int)) = True := eq_true (by omega)
      obtain ⟨ad2, e2, hx⟩ := Kd.at_int (Sp.reads HS.out (i := 3) rfl).2.2 (j : Int) (by omega) (by omega)
      cases e2
      rw [rd_nat seq j ci, Int.toNat_natCast] at hx
      obtain ⟨hx0, hx1⟩ := HSQ.out seq[j] (List.getElem_mem ci)
      have HTK := A0_ (show (seq.take (j + 1)).foldl bumpF cs = bumpF ((seq.take j).foldl bumpF cs) seq[j] by rw [List.take_succ_eq_append_getElem ci, List.foldl_append]; rfl)
      obtain ⟨x, hx_⟩ : ∃ x, x = seq[j] := ⟨_, rfl⟩
      rw [← hx_] at hx hx0 hx1 HTK
      obtain ⟨ks, hks⟩ : ∃ ks, ks = (seq.take j).foldl bumpF cs := ⟨_, rfl⟩
      have hkl : ks.length = cs.length := by rw [hks, bumpFs_len]
      rw [← hks] at HS HTK
      have hmc : cs.length = m := HM.out
      obtain ⟨fp_, ho_, hf_, hc_⟩ := Sp.row HS.out (i := 0) rfl
      obtain ⟨gr, cap, er, _, _, _⟩ := Kd.R_form ho_ (by omega)
      rw [hkl] at er
      injection er with er1 er2 er3
      subst er1 er3
      obtain ⟨hy, hz⟩ := Kd.R_celln (0 : Int) ho_ x (by omega) (by omega)
      have hyC := (blk_cell (Sp.blk HS.out (i := 1) rfl).1 0).trans rfl
      have p0 : (0 ≤ x) = True := eq_true (by omega)
      have p1 : (x < (cs.length : Int)) = True := eq_true (by omega)
      have HC := A0_ hc_
      have HO := A0_ ho_
      have HKS := A0_ hks
      have HW := A0_ (wrap_succ j (by have := HL.out; omega))
      have HP := A0_ (Kd.R_putg ho_ x (wrap64 (rdOf 0 ks x + 1)))
      clear hc_ ho_ hf_ hks hkl hmc hx_ ci hx0 hx1
      go_wp2_with (first
        | ((with_reducible refine gate_store (t := 3) (p := 20) rfl ?_); refine store_event rfl rfl rfl (w1 := wr.setCell ⟨gr, x.toNat, none⟩ (.int .i64 (wrap64 (rdOf 0 ks x + 1)))) (by first | (go_simp; done) | (go_simp; rfl)) ?_; intro w2 hw;
           have HS2 := A0_ (HC.out _ _ _ HP.out.1 HP.out.2); rw [← hw] at HS2; clear HS HC HO HP hw hy hz hyC hx))
      go_roundg k1
      case measure => omega
      case rel =>
        rw [HW.out]
        exact ⟨j + 1, rfl, ⟨by have := of_decide_eq_true ci0; omega, by have := HX.out; omega⟩, by rw [HTK.out]; exact HS2⟩
    · have ci0 : decide (j < seq.length) = false := decide_eq_false ci
      have hj : j = seq.length := by have := HX.out; omega
      have HJ := A0_ hj
      clear ci hj
      go_wp2
      go_ret
      have h2 := HS.out
      rw [HJ.out, List.take_length] at h2
      refine ⟨rfl, vg_close (A := A1) (c := c1) (by show (seq.foldl bumpF cs).length = m; rw [bumpFs_len]; exact HM.out) ?_⟩
      show Sp w0 (Res.row kI 3 w0.heap.size (.slice A1 (seq.foldl bumpF cs).length c1) (seq.foldl bumpF cs) :: Res.blk gC #[.slice A1 (seq.foldl bumpF cs).length c1] 70 :: Res.blk gN #[.int .i64 (wrap64 (n + 1))] 3 :: _) _
      rw [bumpFs_len]
      exact h2
theorem forced_end {C Q : Int} {rows : List (List Int)} (h : CovOk C Q rows) : (endL rows Q stepF (0, List.replicate rows.length 0)).broken = (nodesR rows Q).over ∧ ∃ cs : List Int, (endL rows Q stepF (0, List.replicate rows.length 0)).a = (((nodesR rows Q).found.length : Int), cs) ∧ cs.length = rows.length ∧ ∀ (i : Nat) (hi : i < cs.length), (cs[i] = ((nodesR rows Q).found.length : Int)) ↔ ((nodesR rows Q).found.all fun s => s.contains (i : Int)) = true := by
  have g := all_rel (leafC rows Q.toNat) (kidsC rows Q.toNat) 20000 stepF (0, List.replicate rows.length 0) (fun _ _ => rfl) (by decide) Q.toNat []
  rw [show (20000 + 1 : Int) = 20001 from by decide] at g
  have hk := g.2.2.1
  have h3 : ((nodesR rows Q).found.length : Int) ≤ 20001 := by have h1 := hk.2.1; have h2 := hk.2.2.1; unfold nodesR runV; omega
  obtain ⟨cs, e1, e2, e3⟩ := forced_counts rows.length (nodesR rows Q).found (found_nodup h 20000 20001) (by omega)
  exact ⟨g.1, cs, g.2.2.2.2.trans e1, e2, e3⟩
def impl_IsForced.f (k : Nat) (a0_0 a0_1 : Int) (l0_2 : List (List Int)) : Option (List Int × Int) := if sizesOk l0_2 then some (forcedOut a0_0 a0_1 l0_2) else none
set_option maxHeartbeats 2000000 in
set_option maxRecDepth 100000 in
theorem impl_IsForced.calls (k : Nat) (a0_0 a0_1 : Int) (A0_2 : Option Addr) (c0_2 : Nat) (l0_2 : List (List Int)) (r1 : List Int) (r2 : Int) (w : World) (hr0_2 : Kd.C (Kd.slice 2 (Kd.int .i64)) w A0_2 l0_2.length l0_2) (hc0_2 : l0_2.length ≤ c0_2) (h : impl_IsForced.f k a0_0 a0_1 l0_2 = some (r1, r2)) (hT : TabAt 0 Lib.deBruijn64tab w) :
    Calls Tryd.prog 24 #[.agg #[.int .i64 a0_0, .int .i64 a0_1, .slice A0_2 l0_2.length c0_2]] w fun e w' => ∃ v1_ : Value, e = .returned (.tuple #[v1_, .int .i64 r2]) ∧ Kd.R (Kd.int .i64) 2 w' w.heap.size (fun _ => True) v1_ r1 ∧ Below w.heap.size w w' := by
  unfold impl_IsForced.f at h
  split at h
  case isFalse => cases h
  rename_i hz
  have h2 := Option.some.inj h
  clear h
  unfold forcedOut at h2
  have HZ := A0_ hz
  have HT := A0_ hT
  have HR := A0_ hr0_2
  have HLN := A0_ hz.1
  have HS := A0_ (Sp.start w)
  clear hz hT hr0_2
  by_cases c : coverOk a0_0 a0_1 l0_2 = true
  · rw [if_pos c] at h2
    have HC := A0_ c
    obtain ⟨e1, cs, e2, e3, e4⟩ := forced_end (coverOk_spec c)
    have HSEA0 := A0_ (fun gN gC rest w' hs => impl_searched.good (VG gN gC w.heap.size l0_2.length) w 55 #[.pointer (some ⟨gN, 0, none⟩), .pointer (some ⟨gC, 0, none⟩)] stepF (0, List.replicate l0_2.length 0) a0_0 a0_1 l0_2 A0_2 c0_2 (visG w gN gC _) HT.out HR.out hc0_2 HZ.out HC.out rest w' hs)
    generalize endL l0_2 a0_1 stepF (0, List.replicate l0_2.length 0) = R at e1 e2 HSEA0
    generalize nodesR l0_2 a0_1 = V at e1 e2 e4 h2
    rw [e1, e2] at HSEA0
    have HE3 := A0_ e3
    have HE4 := A0_ e4
    clear e1 e2 e3 e4 c
    by_cases o : V.over = true
    · rw [if_pos o] at h2
      injection h2 with q1 q2
      subst q1 q2
      rw [o, show codeL true = 3 from rfl] at HSEA0
      clear o
      go_enter Tryd.func24, Tryd.ntmps24
      go_wp2_with (first
        | ((with_reducible refine gate_dst (N := 1) rfl ?_); refine box_event ?hg (N := 1) ?hd (cs := #[.int .i64 a0_0, .int .i64 a0_1, .slice A0_2 l0_2.length c0_2]) (t := 28) ?hr ?_; (case hd => rfl); (case hg => rfl); (case hr => first | (go_simp; done) | (go_simp; rfl)); intro gb hgb_ wb_ hcb_ hbb_; have HS_ := A0_ (Sp.boxed HS.out hgb_ hcb_ hbb_); clear HS; have HS := HS_; clear HS_; clear hgb_ hcb_ hbb_)
        | ((with_reducible refine gate_dst (N := 4) rfl ?_); refine box_event ?hg (N := 4) ?hd (cs := #[.int .i64 0]) (t := 3) ?hr ?_; (case hd => rfl); (case hg => rfl); (case hr => first | (go_simp; done) | (go_simp; rfl)); intro gN hgb_ wb_ hcb_ hbb_; have HS_ := A0_ (Sp.boxed HS.out hgb_ hcb_ hbb_); clear HS; have HS := HS_; clear HS_; clear hgb_ hcb_ hbb_; have hn0 := (blk_cell (Sp.blk HS.out (i := 0) rfl).1 0).trans rfl; have zn0 := blk_frozen (Sp.blk HS.out (i := 0) rfl).1 0)
        | ((with_reducible refine gate_store (t := 3) (p := 4) rfl ?_); refine store_event rfl rfl rfl (w1 := wb_.setCell ⟨gN, 0, none⟩ (.int .i64 0)) (by first | (go_simp; done) | (go_simp; rfl)) ?_; intro ws_ hw_; have HS_ := A0_ (Sp.set HS.out 0 rfl 0 (.int .i64 0) (blk_put (cs' := #[.int .i64 0]) (Sp.blk HS.out (i := 0) rfl).1 0 _ rfl)); rw [← hw_] at HS_; clear HS hw_; have HS := HS_; clear HS_; clear hn0 zn0; have hb2 := (blk_cell (Sp.blk HS.out (i := 1) rfl).1 2).trans rfl)
        | ((with_reducible refine gate_dst (N := 14) rfl ?_); refine Kd.R_make kI _ 3 rfl (N := 14) rfl 70 _ _ rfl ((l0_2.length : Nat) : Int) rfl rfl Tryd.underlying70 (.int .i64 0) 8 info3 rfl (by decide) (by decide) ((0 : Int)) (ok := fun _ => True) (okp := fun _ => True) rfl (fun _ hk => hk) trivial ?h0 ?hl (Below.refl _ _) (Nat.le_refl _) ?_; (case h0 => omega); (case hl => have := HLN.out; omega); intro vm_ wm_ ho_ hb_ hg_ hn_; clear hg_ hn_; rw [Int.toNat_natCast] at ho_; obtain ⟨zs, hxs_⟩ : ∃ xs_, xs_ = List.replicate (l0_2.length) ((0 : Int)) := ⟨_, rfl⟩; rw [← hxs_] at ho_; have Hzs := A0_ hxs_; clear hxs_; have HS_ := A0_ (Sp.made' HS.out hb_ ho_); clear HS; have HS := HS_; clear HS_; clear ho_ hb_; obtain ⟨Az, cz, ev_⟩ := Sp.slice HS.out (i := 0) rfl; subst ev_; clear hb2)
        | ((with_reducible refine gate_dst (N := 5) rfl ?_); refine box_event ?hg (N := 5) ?hd (cs := #[.slice none 0 0]) (t := 70) ?hr ?_; (case hd => rfl); (case hg => rfl); (case hr => first | (go_simp; done) | (go_simp; rfl)); intro gC hgb_ wb_ hcb_ hbb_; have HS_ := A0_ (Sp.boxed HS.out hgb_ hcb_ hbb_); clear HS; have HS := HS_; clear HS_; clear hgb_ hcb_ hbb_; have hc0 := (blk_cell (Sp.blk HS.out (i := 0) rfl).1 0).trans rfl; have zc0 := blk_frozen (Sp.blk HS.out (i := 0) rfl).1 0)
        | ((with_reducible refine gate_store (t := 70) (p := 5) rfl ?_); refine store_event rfl rfl rfl (w1 := wb_.setCell ⟨gC, 0, none⟩ (.slice Az zs.length cz)) (by first | (go_simp; done) | (go_simp; rfl)) ?_; intro ws_ hw_; have HS_ := A0_ (Sp.set HS.out 0 rfl 0 (.slice Az zs.length cz) (blk_put (cs' := #[.slice Az zs.length cz]) (Sp.blk HS.out (i := 0) rfl).1 0 _ rfl)); rw [← hw_] at HS_; clear HS hw_; have HS := HS_; clear HS_; clear hc0 zc0; have hb0 := (blk_cell (Sp.blk HS.out (i := 3) rfl).1 0).trans rfl; have hb1 := (blk_cell (Sp.blk HS.out (i := 3) rfl).1 1).trans rfl; have hb2 := (blk_cell (Sp.blk HS.out (i := 3) rfl).1 2).trans rfl; have HSEA := A0_ (HSEA0.out gN gC); have HSV := A0_ (vg_close (a := (0, zs)) (A := Az) (c := cz) (by show zs.length = l0_2.length; rw [Hzs.out, List.length_replicate]) (Sp.swap HS.out)); rw [Hzs.out] at HSV)
        | (go_at_call 44; refine (HSEA.out _ _ HSV.out).mono ?_; rintro e wc_ ⟨g, v0, v3, rfl, hs_⟩; have HS_ := A0_ (hs_); clear HS; have HS := HS_; clear HS_; clear hs_ HSV hb0 hb1 hb2))
      go_ret2
      exact ⟨_, rfl, Kd.R_nil kI 2 _ _ _, HS.out.below⟩
    · rw [if_neg o] at h2
      rw [Bool.eq_false_iff.mpr o, show codeL false = 0 from rfl] at HSEA0
      clear o
      obtain ⟨F, hF⟩ : ∃ F, F = V.found := ⟨_, rfl⟩
      rw [← hF] at h2 HSEA0 HE4
      clear hF
      by_cases z : F = []
      · rw [if_pos z] at h2
        injection h2 with q1 q2
        subst q1 q2
        rw [z, show ((([] : List (List Int)).length : Nat) : Int) = 0 from rfl] at HSEA0
        clear z HE4
        go_enter Tryd.func24, Tryd.ntmps24
        go_wp2_with (first
          | ((with_reducible refine gate_dst (N := 1) rfl ?_); refine box_event ?hg (N := 1) ?hd (cs := #[.int .i64 a0_0, .int .i64 a0_1, .slice A0_2 l0_2.length c0_2]) (t := 28) ?hr ?_; (case hd => rfl); (case hg => rfl); (case hr => first | (go_simp; done) | (go_simp; rfl)); intro gb hgb_ wb_ hcb_ hbb_; have HS_ := A0_ (Sp.boxed HS.out hgb_ hcb_ hbb_); clear HS; have HS := HS_; clear HS_; clear hgb_ hcb_ hbb_)
          | ((with_reducible refine gate_dst (N := 4) rfl ?_); refine box_event ?hg (N := 4) ?hd (cs := #[.int .i64 0]) (t := 3) ?hr ?_; (case hd => rfl); (case hg => rfl); (case hr => first | (go_simp; done) | (go_simp; rfl)); intro gN hgb_ wb_ hcb_ hbb_; have HS_ := A0_ (Sp.boxed HS.out hgb_ hcb_ hbb_); clear HS; have HS := HS_; clear HS_; clear hgb_ hcb_ hbb_; have hn0 := (blk_cell (Sp.blk HS.out (i := 0) rfl).1 0).trans rfl; have zn0 := blk_frozen (Sp.blk HS.out (i := 0) rfl).1 0)
          | ((with_reducible refine gate_store (t := 3) (p := 4) rfl ?_); refine store_event rfl rfl rfl (w1 := wb_.setCell ⟨gN, 0, none⟩ (.int .i64 0)) (by first | (go_simp; done) | (go_simp; rfl)) ?_; intro ws_ hw_; have HS_ := A0_ (Sp.set HS.out 0 rfl 0 (.int .i64 0) (blk_put (cs' := #[.int .i64 0]) (Sp.blk HS.out (i := 0) rfl).1 0 _ rfl)); rw [← hw_] at HS_; clear HS hw_; have HS := HS_; clear HS_; clear hn0 zn0; have hb2 := (blk_cell (Sp.blk HS.out (i := 1) rfl).1 2).trans rfl)
          | ((with_reducible refine gate_dst (N := 14) rfl ?_); refine Kd.R_make kI _ 3 rfl (N := 14) rfl 70 _ _ rfl ((l0_2.length : Nat) : Int) rfl rfl Tryd.underlying70 (.int .i64 0) 8 info3 rfl (by decide) (by decide) ((0 : Int)) (ok := fun _ => True) (okp := fun _ => True) rfl (fun _ hk => hk) trivial ?h0 ?hl (Below.refl _ _) (Nat.le_refl _) ?_; (case h0 => omega); (case hl => have := HLN.out; omega); intro vm_ wm_ ho_ hb_ hg_ hn_; clear hg_ hn_; rw [Int.toNat_natCast] at ho_; obtain ⟨zs, hxs_⟩ : ∃ xs_, xs_ = List.replicate (l0_2.length) ((0 : Int)) := ⟨_, rfl⟩; rw [← hxs_] at ho_; have Hzs := A0_ hxs_; clear hxs_; have HS_ := A0_ (Sp.made' HS.out hb_ ho_); clear HS; have HS := HS_; clear HS_; clear ho_ hb_; obtain ⟨Az, cz, ev_⟩ := Sp.slice HS.out (i := 0) rfl; subst ev_; clear hb2)
          | ((with_reducible refine gate_dst (N := 5) rfl ?_); refine box_event ?hg (N := 5) ?hd (cs := #[.slice none 0 0]) (t := 70) ?hr ?_; (case hd => rfl); (case hg => rfl); (case hr => first | (go_simp; done) | (go_simp; rfl)); intro gC hgb_ wb_ hcb_ hbb_; have HS_ := A0_ (Sp.boxed HS.out hgb_ hcb_ hbb_); clear HS; have HS := HS_; clear HS_; clear hgb_ hcb_ hbb_; have hc0 := (blk_cell (Sp.blk HS.out (i := 0) rfl).1 0).trans rfl; have zc0 := blk_frozen (Sp.blk HS.out (i := 0) rfl).1 0)
          | ((with_reducible refine gate_store (t := 70) (p := 5) rfl ?_); refine store_event rfl rfl rfl (w1 := wb_.setCell ⟨gC, 0, none⟩ (.slice Az zs.length cz)) (by first | (go_simp; done) | (go_simp; rfl)) ?_; intro ws_ hw_; have HS_ := A0_ (Sp.set HS.out 0 rfl 0 (.slice Az zs.length cz) (blk_put (cs' := #[.slice Az zs.length cz]) (Sp.blk HS.out (i := 0) rfl).1 0 _ rfl)); rw [← hw_] at HS_; clear HS hw_; have HS := HS_; clear HS_; clear hc0 zc0; have hb0 := (blk_cell (Sp.blk HS.out (i := 3) rfl).1 0).trans rfl; have hb1 := (blk_cell (Sp.blk HS.out (i := 3) rfl).1 1).trans rfl; have hb2 := (blk_cell (Sp.blk HS.out (i := 3) rfl).1 2).trans rfl; have HSEA := A0_ (HSEA0.out gN gC); have HSV := A0_ (vg_close (a := (0, zs)) (A := Az) (c := cz) (by show zs.length = l0_2.length; rw [Hzs.out, List.length_replicate]) (Sp.swap HS.out)); rw [Hzs.out] at HSV)
          | (go_at_call 44; refine (HSEA.out _ _ HSV.out).mono ?_; rintro e wc_ ⟨g, v0, v3, rfl, hs_⟩; have HS_ := A0_ (hs_); clear HS; have HS := HS_; clear HS_; clear hs_ HSV hb0 hb1 hb2; obtain ⟨hm_, Ac, cc, hv_⟩ := vg_open (Sp.swap HS.out); clear hm_; have HS_ := A0_ (hv_); clear HS; have HS := HS_; clear HS_; clear hv_; have hc0 := (blk_cell (Sp.blk HS.out (i := 1) rfl).1 0).trans rfl; have hn0 := (blk_cell (Sp.blk HS.out (i := 2) rfl).1 0).trans rfl))
        go_ret2
        exact ⟨_, rfl, Kd.R_nil kI 2 _ _ _, HS.out.below⟩
      · rw [if_neg z] at h2
        injection h2 with q1 q2
        subst q1 q2
        obtain ⟨n, hn⟩ : ∃ n : Int, n = (F.length : Int) := ⟨_, rfl⟩
        rw [← hn] at HSEA0 HE4
        have hn0 : (n == 0) = false := by rw [beq_eq_false_iff_ne]; rintro rfl; cases F with | nil => exact z rfl | cons a b => simp at hn; omega
        clear z hn
        go_enter Tryd.func24, Tryd.ntmps24
        go_wp2_with (first
          | ((with_reducible refine gate_dst (N := 1) rfl ?_); refine box_event ?hg (N := 1) ?hd (cs := #[.int .i64 a0_0, .int .i64 a0_1, .slice A0_2 l0_2.length c0_2]) (t := 28) ?hr ?_; (case hd => rfl); (case hg => rfl); (case hr => first | (go_simp; done) | (go_simp; rfl)); intro gb hgb_ wb_ hcb_ hbb_; have HS_ := A0_ (Sp.boxed HS.out hgb_ hcb_ hbb_); clear HS; have HS := HS_; clear HS_; clear hgb_ hcb_ hbb_)
          | ((with_reducible refine gate_dst (N := 4) rfl ?_); refine box_event ?hg (N := 4) ?hd (cs := #[.int .i64 0]) (t := 3) ?hr ?_; (case hd => rfl); (case hg => rfl); (case hr => first | (go_simp; done) | (go_simp; rfl)); intro gN hgb_ wb_ hcb_ hbb_; have HS_ := A0_ (Sp.boxed HS.out hgb_ hcb_ hbb_); clear HS; have HS := HS_; clear HS_; clear hgb_ hcb_ hbb_; have hm0 := (blk_cell (Sp.blk HS.out (i := 0) rfl).1 0).trans rfl; have zm0 := blk_frozen (Sp.blk HS.out (i := 0) rfl).1 0)
          | ((with_reducible refine gate_store (t := 3) (p := 4) rfl ?_); refine store_event rfl rfl rfl (w1 := wb_.setCell ⟨gN, 0, none⟩ (.int .i64 0)) (by first | (go_simp; done) | (go_simp; rfl)) ?_; intro ws_ hw_; have HS_ := A0_ (Sp.set HS.out 0 rfl 0 (.int .i64 0) (blk_put (cs' := #[.int .i64 0]) (Sp.blk HS.out (i := 0) rfl).1 0 _ rfl)); rw [← hw_] at HS_; clear HS hw_; have HS := HS_; clear HS_; clear hm0 zm0; have hb2 := (blk_cell (Sp.blk HS.out (i := 1) rfl).1 2).trans rfl)
          | ((with_reducible refine gate_dst (N := 14) rfl ?_); refine Kd.R_make kI _ 3 rfl (N := 14) rfl 70 _ _ rfl ((l0_2.length : Nat) : Int) rfl rfl Tryd.underlying70 (.int .i64 0) 8 info3 rfl (by decide) (by decide) ((0 : Int)) (ok := fun _ => True) (okp := fun _ => True) rfl (fun _ hk => hk) trivial ?h0 ?hl (Below.refl _ _) (Nat.le_refl _) ?_; (case h0 => omega); (case hl => have := HLN.out; omega); intro vm_ wm_ ho_ hb_ hg_ hn_; clear hg_ hn_; rw [Int.toNat_natCast] at ho_; obtain ⟨zs, hxs_⟩ : ∃ xs_, xs_ = List.replicate (l0_2.length) ((0 : Int)) := ⟨_, rfl⟩; rw [← hxs_] at ho_; have Hzs := A0_ hxs_; clear hxs_; have HS_ := A0_ (Sp.made' HS.out hb_ ho_); clear HS; have HS := HS_; clear HS_; clear ho_ hb_; obtain ⟨Az, cz, ev_⟩ := Sp.slice HS.out (i := 0) rfl; subst ev_; clear hb2)
          | ((with_reducible refine gate_dst (N := 5) rfl ?_); refine box_event ?hg (N := 5) ?hd (cs := #[.slice none 0 0]) (t := 70) ?hr ?_; (case hd => rfl); (case hg => rfl); (case hr => first | (go_simp; done) | (go_simp; rfl)); intro gC hgb_ wb_ hcb_ hbb_; have HS_ := A0_ (Sp.boxed HS.out hgb_ hcb_ hbb_); clear HS; have HS := HS_; clear HS_; clear hgb_ hcb_ hbb_; have hc0 := (blk_cell (Sp.blk HS.out (i := 0) rfl).1 0).trans rfl; have zc0 := blk_frozen (Sp.blk HS.out (i := 0) rfl).1 0)
          | ((with_reducible refine gate_store (t := 70) (p := 5) rfl ?_); refine store_event rfl rfl rfl (w1 := wb_.setCell ⟨gC, 0, none⟩ (.slice Az zs.length cz)) (by first | (go_simp; done) | (go_simp; rfl)) ?_; intro ws_ hw_; have HS_ := A0_ (Sp.set HS.out 0 rfl 0 (.slice Az zs.length cz) (blk_put (cs' := #[.slice Az zs.length cz]) (Sp.blk HS.out (i := 0) rfl).1 0 _ rfl)); rw [← hw_] at HS_; clear HS hw_; have HS := HS_; clear HS_; clear hc0 zc0; have hb0 := (blk_cell (Sp.blk HS.out (i := 3) rfl).1 0).trans rfl; have hb1 := (blk_cell (Sp.blk HS.out (i := 3) rfl).1 1).trans rfl; have hb2 := (blk_cell (Sp.blk HS.out (i := 3) rfl).1 2).trans rfl; have HSEA := A0_ (HSEA0.out gN gC); have HSV := A0_ (vg_close (a := (0, zs)) (A := Az) (c := cz) (by show zs.length = l0_2.length; rw [Hzs.out, List.length_replicate]) (Sp.swap HS.out)); rw [Hzs.out] at HSV)
          | (go_at_call 44; refine (HSEA.out _ _ HSV.out).mono ?_; rintro e wc_ ⟨g, v0, v3, rfl, hs_⟩; have HS_ := A0_ (hs_); clear HS; have HS := HS_; clear HS_; clear hs_ HSV hb0 hb1 hb2; obtain ⟨hm_, Ac, cc, hv_⟩ := vg_open (Sp.swap HS.out); clear hm_; have HS_ := A0_ (hv_); clear HS; have HS := HS_; clear HS_; clear hv_; have hc0 := (blk_cell (Sp.blk HS.out (i := 1) rfl).1 0).trans rfl; have hn_0 := (blk_cell (Sp.blk HS.out (i := 2) rfl).1 0).trans rfl)
          | ((with_reducible refine gate_dst (N := 26) rfl ?_); refine Kd.R_lit kI _ 2 ?hg (N := 26) ?hd (xs := ([] : List Int)) (inner := []) (ok := fun _ => True) (okp := fun _ => True) ?hr ?hp (fun _ hk => hk) trivial (Below.refl _ _) (Nat.le_refl _) (by simp) ?_; (case hd => rfl); (case hg => rfl); (case hr => first | (go_simp; done) | (go_simp; rfl)); (case hp => exact (Reps.none _ _)); intro vl_ wl_ ho_ hb_ hg_ hn_; clear hg_ hn_; have HS_ := A0_ (Sp.made' HS.out hb_ ho_); clear HS; have HS := HS_; clear HS_; clear ho_ hb_; obtain ⟨Ao, co, ev_⟩ := Sp.slice HS.out (i := 0) rfl; subst ev_; clear hc0 hn_0; have hc0 := (blk_cell (Sp.blk HS.out (i := 2) rfl).1 0).trans rfl))
        obtain ⟨rest, HS_⟩ : ∃ rest, Aside0 (Sp w ([Res.row kI 2 w.heap.size (.slice Ao (forcedRows 0 F).length co) (forcedRows 0 F), Res.row kI 3 w.heap.size (.slice Ac cs.length cc) cs, Res.blk gC #[.slice Ac cs.length cc] 70, Res.blk gN #[.int .i64 n] 3] ++ rest) _) := ⟨_, A0_ HS.out⟩
        clear HS
        have HS := HS_
        clear HS_
        have HCL := A0_ (show cs.length ≤ 1048576 by rw [HE3.out]; exact HLN.out)
        go_loopg [8, 29] (cs.length + 1) (fun kq v8 v29 w' => ∃ (j : Nat) (Ao : Option Addr) (co : Nat), v29 = .int .i64 (j : Int) ∧ v8 = .slice Ao (forcedRows j F).length co ∧ Aside0 (j ≤ cs.length ∧ kq + j = cs.length + 1) ∧ Aside0 (Sp w ([Res.row kI 2 w.heap.size (.slice Ao (forcedRows j F).length co) (forcedRows j F), Res.row kI 3 w.heap.size (.slice Ac cs.length cc) cs, Res.blk gC #[.slice Ac cs.length cc] 70, Res.blk gN #[.int .i64 n] 3] ++ rest) w'))
        case atStart => exact ⟨0, Ao, co, rfl, rfl, ⟨by omega, by omega⟩, HS⟩
        case round =>
          clear HS
          obtain ⟨j, Ao, co, rfl, rfl, HX, HS⟩ := hrel
          obtain ⟨k1, rfl⟩ : ∃ k1, gk = k1 + 1 := ⟨gk - 1, by have := HX.out; omega⟩
          by_cases ci : j < cs.length
          · have ci0 : decide (j < cs.length) = true := decide_eq_true ci
            have q0 : (0 ≤ (j : Int)) = True := eq_true (by omega)
            have q1 : ((j : Int) < (cs.length : Int)) = True := eq_true (by omega)
            obtain ⟨ad2, e2, hx⟩ := Kd.at_int (Sp.reads HS.out (i := 1) rfl).2.2 (j : Int) (by omega) (by omega)
            cases e2
            rw [rd_nat cs j ci, Int.toNat_natCast] at hx
            have hnn := (blk_cell (Sp.blk HS.out (i := 3) rfl).1 0).trans rfl
            have HW := A0_ (wrap_succ j (by have := HCL.out; omega))
            have HFL := A0_ (forced_len j F)
            have hne := HE4.out j ci
            have HFN := A0_ (forced_next j F)
            generalize cs[j] = x at hx hne
            clear ci
            by_cases d : x = n
            · have d0 : (x == n) = true := by rw [beq_iff_eq]; exact d
              have HFN2 := A0_ (show forcedRows (j + 1) F = forcedRows j F ++ [(j : Int)] by rw [HFN.out, if_pos (hne.1 d)])
              clear d hne
              go_wp2_with (first
                | ((with_reducible refine gate_builtin (b := .append) (xs := #[.tmp 37, .tmp 39]) rfl ?_); at_builtin; obtain ⟨fp_, ho_, hf_, hc_⟩ := Sp.row HS.out (i := 0) rfl; refine Kd.R_append kI (w0 := w) w.heap.size rfl (.tmp 37) (.tmp 39) 32 2 (.int .i64 0) 8 rfl Tryd.underlying32 info2 rfl (by decide) (by omega) (.slice Ao (forcedRows j F).length co) (forcedRows j F) ((j : Int)) ([.int .i64 (j : Int)]) _ (fun _ => False) rfl rfl rfl (fun _ hk => hk.elim) (fun _ h => Or.inr h) ho_ HS.out.below HS.out.below.size ?aL ?_; (case aL => have := HFL.out; have := HX.out; have := HCL.out; omega); intro va_ wa_ ho hb hg hat; have HS_ := A0_ (hc_ _ _ _ ho hg); clear HS; have HS := HS_; clear HS_; clear ho hb hg hat hc_ hf_ ho_ fp_; obtain ⟨Ao2, co2, ev_⟩ := Sp.slice HS.out (i := 0) rfl; subst ev_; rw [← HFN2.out] at HS))
              go_roundg k1
              case measure => omega
              case rel =>
                rw [HW.out]
                exact ⟨j + 1, Ao2, co2, rfl, by rw [HFN2.out, List.length_append]; rfl, ⟨by have := of_decide_eq_true ci0; omega, by have := HX.out; omega⟩, HS⟩
            · have d0 : (x == n) = false := by rw [beq_eq_false_iff_ne]; exact d
              have HFN2 := A0_ (show forcedRows (j + 1) F = forcedRows j F by rw [HFN.out, if_neg (fun hh => d (hne.2 hh)), List.append_nil])
              clear d hne
              go_wp2
              go_roundg k1
              case measure => omega
              case rel =>
                rw [HW.out]
                exact ⟨j + 1, Ao, co, rfl, by rw [HFN2.out], ⟨by have := of_decide_eq_true ci0; omega, by have := HX.out; omega⟩, by rw [HFN2.out]; exact HS⟩
          · have ci0 : decide (j < cs.length) = false := decide_eq_false ci
            have hj : j = cs.length := by have := HX.out; omega
            have HJ := A0_ (hj.trans HE3.out)
            clear ci hj
            go_wp2
            go_ret2
            obtain ⟨fp_, hp_, _⟩ := Sp.get HS.out (i := 0) rfl
            refine ⟨_, rfl, ?_, HS.out.below⟩
            rw [← HJ.out]
            exact Kd.R_mono hp_ (fun _ _ => trivial)
  · rw [if_neg c] at h2
    injection h2 with q1 q2
    subst q1 q2
    have HSB := A0_ (fun gN gC w' hb => impl_searched.bad w 55 #[.pointer (some ⟨gN, 0, none⟩), .pointer (some ⟨gC, 0, none⟩)] a0_0 a0_1 l0_2 A0_2 c0_2 HR.out hc0_2 HZ.out (Bool.eq_false_iff.mpr c) w' hb)
    clear c
    go_enter Tryd.func24, Tryd.ntmps24
    go_wp2_with (first
      | ((with_reducible refine gate_dst (N := 1) rfl ?_); refine box_event ?hg (N := 1) ?hd (cs := #[.int .i64 a0_0, .int .i64 a0_1, .slice A0_2 l0_2.length c0_2]) (t := 28) ?hr ?_; (case hd => rfl); (case hg => rfl); (case hr => first | (go_simp; done) | (go_simp; rfl)); intro gb hgb_ wb_ hcb_ hbb_; have HS_ := A0_ (Sp.boxed HS.out hgb_ hcb_ hbb_); clear HS; have HS := HS_; clear HS_; clear hgb_ hcb_ hbb_)
      | ((with_reducible refine gate_dst (N := 4) rfl ?_); refine box_event ?hg (N := 4) ?hd (cs := #[.int .i64 0]) (t := 3) ?hr ?_; (case hd => rfl); (case hg => rfl); (case hr => first | (go_simp; done) | (go_simp; rfl)); intro gN hgb_ wb_ hcb_ hbb_; have HS_ := A0_ (Sp.boxed HS.out hgb_ hcb_ hbb_); clear HS; have HS := HS_; clear HS_; clear hgb_ hcb_ hbb_; have hn0 := (blk_cell (Sp.blk HS.out (i := 0) rfl).1 0).trans rfl; have zn0 := blk_frozen (Sp.blk HS.out (i := 0) rfl).1 0)
      | ((with_reducible refine gate_store (t := 3) (p := 4) rfl ?_); refine store_event rfl rfl rfl (w1 := wb_.setCell ⟨gN, 0, none⟩ (.int .i64 0)) (by first | (go_simp; done) | (go_simp; rfl)) ?_; intro ws_ hw_; have HS_ := A0_ (Sp.set HS.out 0 rfl 0 (.int .i64 0) (blk_put (cs' := #[.int .i64 0]) (Sp.blk HS.out (i := 0) rfl).1 0 _ rfl)); rw [← hw_] at HS_; clear HS hw_; have HS := HS_; clear HS_; clear hn0 zn0; have hb2 := (blk_cell (Sp.blk HS.out (i := 1) rfl).1 2).trans rfl)
      | ((with_reducible refine gate_dst (N := 14) rfl ?_); refine Kd.R_make kI _ 3 rfl (N := 14) rfl 70 _ _ rfl ((l0_2.length : Nat) : Int) rfl rfl Tryd.underlying70 (.int .i64 0) 8 info3 rfl (by decide) (by decide) ((0 : Int)) (ok := fun _ => True) (okp := fun _ => True) rfl (fun _ hk => hk) trivial ?h0 ?hl (Below.refl _ _) (Nat.le_refl _) ?_; (case h0 => omega); (case hl => have := HLN.out; omega); intro vm_ wm_ ho_ hb_ hg_ hn_; clear hg_ hn_; rw [Int.toNat_natCast] at ho_; obtain ⟨zs, hxs_⟩ : ∃ xs_, xs_ = List.replicate (l0_2.length) ((0 : Int)) := ⟨_, rfl⟩; rw [← hxs_] at ho_; have Hzs := A0_ hxs_; clear hxs_; have HS_ := A0_ (Sp.made' HS.out hb_ ho_); clear HS; have HS := HS_; clear HS_; clear ho_ hb_; obtain ⟨Az, cz, ev_⟩ := Sp.slice HS.out (i := 0) rfl; subst ev_; clear hb2)
      | ((with_reducible refine gate_dst (N := 5) rfl ?_); refine box_event ?hg (N := 5) ?hd (cs := #[.slice none 0 0]) (t := 70) ?hr ?_; (case hd => rfl); (case hg => rfl); (case hr => first | (go_simp; done) | (go_simp; rfl)); intro gC hgb_ wb_ hcb_ hbb_; have HS_ := A0_ (Sp.boxed HS.out hgb_ hcb_ hbb_); clear HS; have HS := HS_; clear HS_; clear hgb_ hcb_ hbb_; have hc0 := (blk_cell (Sp.blk HS.out (i := 0) rfl).1 0).trans rfl; have zc0 := blk_frozen (Sp.blk HS.out (i := 0) rfl).1 0)
      | ((with_reducible refine gate_store (t := 70) (p := 5) rfl ?_); refine store_event rfl rfl rfl (w1 := wb_.setCell ⟨gC, 0, none⟩ (.slice Az zs.length cz)) (by first | (go_simp; done) | (go_simp; rfl)) ?_; intro ws_ hw_; have HS_ := A0_ (Sp.set HS.out 0 rfl 0 (.slice Az zs.length cz) (blk_put (cs' := #[.slice Az zs.length cz]) (Sp.blk HS.out (i := 0) rfl).1 0 _ rfl)); rw [← hw_] at HS_; clear HS hw_; have HS := HS_; clear HS_; clear hc0 zc0; have hb0 := (blk_cell (Sp.blk HS.out (i := 3) rfl).1 0).trans rfl; have hb1 := (blk_cell (Sp.blk HS.out (i := 3) rfl).1 1).trans rfl; have hb2 := (blk_cell (Sp.blk HS.out (i := 3) rfl).1 2).trans rfl)
      | (go_at_call 44; refine (HSB.out gN gC _ HS.out.below).mono ?_; rintro e wc_ ⟨rfl, hb_⟩; have HS_ := A0_ (Sp.far HS.out hb_); clear HS; have HS := HS_; clear HS_; clear hb_ hb0 hb1 hb2))
    go_ret2
    exact ⟨_, rfl, Kd.R_nil kI 2 _ _ _, HS.out.below⟩
end Go.Proofs.YtoglcgnbkibpgaaDoor.A

/- The reference's IsForced, walked. -/
namespace Go.Proofs.YtoglcgnbkibpgaaDoor.A
open Go.RowKit Go.Proofs.YtoglcgnbkibpgaaDoorW.PrintWords Go.Proofs.YtoglcgnbkibpgaaDoorW.PrintLast Go.Proofs.YtoglcgnbkibpgaaDoorW.PrintMore Go.Proofs.YtoglcgnbkibpgaaDoorW.Cov Go.Proofs.YtoglcgnbkibpgaaDoorW.Tree
set_option linter.unusedVariables false
set_option linter.unusedSimpArgs false
/-- What a call has made comes to what was there. -/
theorem Sp.app {w0 w1 w2 : World} {rs rs2 : List Res} (h : Sp w0 rs w1) (h2 : Sp w1 rs2 w2) : Sp w0 (rs2 ++ rs) w2 := by
  obtain ⟨F, f1, f2, f3⟩ := h.foot
  obtain ⟨G, g1, g2, g3⟩ := h2.foot
  have hb : Below w0.heap.size w0 w2 := (Turns.of_below (fp := fun _ => False) h2.below).below h.below (fun _ hk => hk.elim)
  refine ⟨hb, fun j => if j < rs2.length then G j else F (j - rs2.length), fun j s hj => ?_, fun i j k hij => ?_, fun j k => ?_⟩
  · by_cases c : j < rs2.length
    · rw [List.getElem?_append_left c] at hj
      simp only [if_pos c]
      exact g1 j s hj
    · rw [List.getElem?_append_right (by omega)] at hj
      simp only [if_neg c]
      exact s.mono (fun k hk => hk.1) (s.move (fun k hk hlt => h2.below.block k hlt) (f1 _ s hj))
  · by_cases c : i < rs2.length
    · by_cases d : j < rs2.length
      · simp only [if_pos c, if_pos d]
        exact g2 i j k hij
      · simp only [if_pos c, if_neg d]
        intro hi hj
        have := (g3 i k hi).1
        have := (f3 _ k hj).2
        omega
    · by_cases d : j < rs2.length
      · simp only [if_neg c, if_pos d]
        intro hi hj
        have := (g3 j k hj).1
        have := (f3 _ k hi).2
        omega
      · simp only [if_neg c, if_neg d]
        exact f2 _ _ k (by omega)
  · by_cases c : j < rs2.length
    · simp only [if_pos c]
      intro hk
      have h3 := g3 j k hk
      have := h.below.size
      exact ⟨by omega, h3.2⟩
    · simp only [if_neg c]
      intro hk
      have h3 := f3 _ k hk
      have := h2.below.size
      exact ⟨h3.1, by omega⟩
def cntHas (F : List (List Int)) (r : Int) : Nat := F.countP fun s => s.contains r
theorem cntHas_next (F : List (List Int)) (r : Int) (i : Nat) (h : i < F.length) : cntHas (F.take (i + 1)) r = cntHas (F.take i) r + (if F[i].contains r = true then 1 else 0) := by
  unfold cntHas
  rw [List.take_succ_eq_append_getElem h, List.countP_append]
  simp [List.countP_cons]
theorem cntHas_le (F : List (List Int)) (r : Int) : cntHas F r ≤ F.length := List.countP_le_length
theorem cntHas_all (F : List (List Int)) (r : Int) : cntHas F r = F.length ↔ (F.all fun s => s.contains r) = true := by
  unfold cntHas
  rw [List.countP_eq_length, List.all_eq_true]
def spec_IsForced.f (k : Nat) (a0_0 a0_1 : Int) (l0_2 : List (List Int)) : Option (List Int × Int) := if sizesOk l0_2 then some (forcedOut a0_0 a0_1 l0_2) else none
set_option maxHeartbeats 2000000 in
set_option maxRecDepth 100000 in
theorem spec_IsForced.calls (k : Nat) (a0_0 a0_1 : Int) (A0_2 : Option Addr) (c0_2 : Nat) (l0_2 : List (List Int)) (r1 : List Int) (r2 : Int) (w : World) (hr0_2 : Kd.C (Kd.slice 2 (Kd.int .i64)) w A0_2 l0_2.length l0_2) (hc0_2 : l0_2.length ≤ c0_2) (h : spec_IsForced.f k a0_0 a0_1 l0_2 = some (r1, r2)) :
    Calls Tryd.prog 23 #[.agg #[.int .i64 a0_0, .int .i64 a0_1, .slice A0_2 l0_2.length c0_2]] w fun e w' => ∃ v1_ : Value, e = .returned (.tuple #[v1_, .int .i64 r2]) ∧ Kd.R (Kd.int .i64) 2 w' w.heap.size (fun _ => True) v1_ r1 ∧ Below w.heap.size w w' := by
  unfold spec_IsForced.f at h
  split at h
  case isFalse => cases h
  rename_i hz
  obtain ⟨K, hK⟩ := (isCover_ev a0_0 a0_1 l0_2 hz.1 hz.2).rounds
  have h2 := Option.some.inj h
  clear h
  unfold forcedOut at h2
  have HR := A0_ hr0_2
  have HK := A0_ hK
  have HLN := A0_ hz.1
  have HS := A0_ (Sp.start w)
  clear hr0_2 hK
  by_cases c : coverOk a0_0 a0_1 l0_2 = true
  · rw [if_pos c] at h2
    rw [c] at HK
    have HCO := A0_ (coverOk_spec c)
    have HFD := A0_ (found_nodup (coverOk_spec c) 20000 20001)
    change Aside0 (∀ x ∈ (nodesR l0_2 a0_1).found, _) at HFD
    have h3 : ((nodesR l0_2 a0_1).found.length : Int) ≤ 20001 := by
      have g := all_rel (leafC l0_2 a0_1.toNat) (kidsC l0_2 a0_1.toNat) 20000 stepN () (fun _ _ => rfl) (by decide) a0_1.toNat []
      have hk := g.2.2.1
      have h1 := hk.2.1
      have h2 := hk.2.2.1
      rw [show (20000 + 1 : Int) = 20001 from by decide] at h1 h2
      unfold nodesR runV
      omega
    have HFL := A0_ h3
    clear h3
    by_cases o : (nodesR l0_2 a0_1).over = true
    · rw [if_pos o] at h2
      injection h2 with q1 q2
      subst q1 q2
      have HO := A0_ o
      clear o c hz
      go_enter Tryd.func23, Tryd.ntmps23
      go_wp2_with (first
        | ((with_reducible refine gate_dst (N := 1) rfl ?_); go_loud (refine box_event ?hg (N := 1) ?hd (cs := #[.int .i64 a0_0, .int .i64 a0_1, .slice A0_2 l0_2.length c0_2]) (t := 28) ?hr ?_; (case hd => rfl); (case hg => rfl); (case hr => first | (go_simp; done) | (go_simp; rfl)); intro gb hgb_ wb_ hcb_ hbb_; have HS_ := A0_ (Sp.boxed HS.out hgb_ hcb_ hbb_); clear HS; have HS := HS_; clear HS_; clear hgb_ hcb_ hbb_; have hb0 := (blk_cell (Sp.blk HS.out (i := 0) rfl).1 0).trans rfl; have hb1 := (blk_cell (Sp.blk HS.out (i := 0) rfl).1 1).trans rfl; have hb2 := (blk_cell (Sp.blk HS.out (i := 0) rfl).1 2).trans rfl))
        | (go_at_call 42; go_loud (refine (spec_l14All.over K a0_0 a0_1 l0_2 HCO.out _ A0_2 c0_2 (Kd.C_below HR.out HS.out.below) hc0_2 HK.out HO.out).mono ?_; rintro e wc_ ⟨rfl, hb_⟩; have HS_ := A0_ (Sp.far HS.out hb_); clear HS; have HS := HS_; clear HS_; clear hb_ hb0 hb1 hb2)))
      go_ret2
      exact ⟨_, rfl, Kd.R_nil kI 2 _ _ _, HS.out.below⟩
    · rw [if_neg o] at h2
      have HO := A0_ (Bool.eq_false_iff.mpr o)
      have HALL := A0_ (fun (w1 : World) hR => spec_l14All.good K a0_0 a0_1 l0_2 HCO.out w1 A0_2 c0_2 hR hc0_2 HK.out HO.out)
      generalize nodesR l0_2 a0_1 = V at h2 HFD HFL HALL
      by_cases z : V.found = []
      · rw [if_pos z] at h2
        injection h2 with q1 q2
        subst q1 q2
        have HZ0 := A0_ (show V.found.length = 0 by rw [z]; rfl)
        clear o c hz z
        go_enter Tryd.func23, Tryd.ntmps23
        go_wp2_with (first
          | ((with_reducible refine gate_dst (N := 1) rfl ?_); go_loud (refine box_event ?hg (N := 1) ?hd (cs := #[.int .i64 a0_0, .int .i64 a0_1, .slice A0_2 l0_2.length c0_2]) (t := 28) ?hr ?_; (case hd => rfl); (case hg => rfl); (case hr => first | (go_simp; done) | (go_simp; rfl)); intro gb hgb_ wb_ hcb_ hbb_; have HS_ := A0_ (Sp.boxed HS.out hgb_ hcb_ hbb_); clear HS; have HS := HS_; clear HS_; clear hgb_ hcb_ hbb_; have hb0 := (blk_cell (Sp.blk HS.out (i := 0) rfl).1 0).trans rfl; have hb1 := (blk_cell (Sp.blk HS.out (i := 0) rfl).1 1).trans rfl; have hb2 := (blk_cell (Sp.blk HS.out (i := 0) rfl).1 2).trans rfl))
          | (go_at_call 42; refine (HALL.out _ (Kd.C_below HR.out HS.out.below)).mono ?_; rintro e wc_ ⟨g, A4, c4, rfl, hs_⟩; have HS2 := A0_ hs_; have HB := A0_ (Sp.far HS.out hs_.below); clear HS hb0 hb1 hb2 hs_; have hg5 := (blk_cell (Sp.blk HS2.out (i := 0) rfl).1 5).trans rfl; rw [HZ0.out] at hg5))
        go_ret2
        exact ⟨_, rfl, Kd.R_nil kI 2 _ _ _, HB.out.below⟩
      · rw [if_neg z] at h2
        injection h2 with q1 q2
        subst q1 q2
        have HNZ := A0_ (show V.found.length ≠ 0 from fun h0 => z (List.length_eq_zero_iff.1 h0))
        clear o c hz z
        obtain ⟨st, F, ov⟩ := V
        dsimp only at HFD HFL HNZ HALL ⊢
        have hn0 : ((F.length : Int) == 0) = false := by rw [beq_eq_false_iff_ne]; have := HNZ.out; omega
        have hn1 : (F.length == 0) = false := by rw [beq_eq_false_iff_ne]; exact HNZ.out
        have hn2 : (F.length = 0) = False := eq_false HNZ.out
        go_enter Tryd.func23, Tryd.ntmps23
        go_wp2_with (first
          | ((with_reducible refine gate_dst (N := 1) rfl ?_); go_loud (refine box_event ?hg (N := 1) ?hd (cs := #[.int .i64 a0_0, .int .i64 a0_1, .slice A0_2 l0_2.length c0_2]) (t := 28) ?hr ?_; (case hd => rfl); (case hg => rfl); (case hr => first | (go_simp; done) | (go_simp; rfl)); intro gb hgb_ wb_ hcb_ hbb_; have HS_ := A0_ (Sp.boxed HS.out hgb_ hcb_ hbb_); clear HS; have HS := HS_; clear HS_; clear hgb_ hcb_ hbb_; have hb0 := (blk_cell (Sp.blk HS.out (i := 0) rfl).1 0).trans rfl; have hb1 := (blk_cell (Sp.blk HS.out (i := 0) rfl).1 1).trans rfl; have hb2 := (blk_cell (Sp.blk HS.out (i := 0) rfl).1 2).trans rfl))
          | (go_at_call 42; refine (HALL.out _ (Kd.C_below HR.out HS.out.below)).mono ?_; rintro e wc_ ⟨g, A4, c4, rfl, hs_⟩; have HS_ := A0_ (Sp.app HS.out hs_); clear HS hb0 hb1 hb2 hs_; have HS := HS_; clear HS_; have hg5 := (blk_cell (Sp.blk HS.out (i := 0) rfl).1 5).trans rfl)
          | ((with_reducible refine gate_dst (N := 24) rfl ?_); go_loud (refine Kd.R_lit kI _ 2 ?hg (N := 24) ?hd (xs := ([] : List Int)) (inner := []) (ok := fun _ => True) (okp := fun _ => True) ?hr ?hp (fun _ hk => hk) trivial (Below.refl _ _) (Nat.le_refl _) (by simp) ?_; (case hd => rfl); (case hg => rfl); (case hr => first | (go_simp; done) | (go_simp; rfl)); (case hp => exact (Reps.none _ _)); intro vl_ wl_ ho_ hb_ hg_ hn_; clear hg_ hn_; have HS_ := A0_ (Sp.made' HS.out hb_ ho_); clear HS; have HS := HS_; clear HS_; clear ho_ hb_; obtain ⟨Ao, co, ev_⟩ := Sp.slice HS.out (i := 0) rfl; subst ev_; clear hg5)))
        obtain ⟨bs, HS_⟩ : ∃ bs, Aside0 (Sp w ([Res.row kI 2 w.heap.size (.slice Ao (forcedRows 0 F).length co) (forcedRows 0 F), Res.blk g #[.int .i64 a0_0, .int .i64 a0_1, .slice A0_2 l0_2.length c0_2, .int .i64 20000, .int .i64 st, .slice A4 F.length c4, .int .i64 20001, .bool ov] 55, Res.row kL 32 bs (.slice A4 F.length c4) F, Res.blk gb #[.int .i64 a0_0, .int .i64 a0_1, .slice A0_2 l0_2.length c0_2] 28]) _) := ⟨_, A0_ HS.out⟩
        clear HS hn0 hn1 hn2
        have HS := HS_
        clear HS_
        go_loopg [6, 7] (l0_2.length + 1) (fun kq v6 v7 w' => ∃ (i : Nat) (Ao : Option Addr) (co : Nat), v7 = .int .i64 (i : Int) ∧ v6 = .slice Ao (forcedRows i F).length co ∧ Aside0 (i ≤ l0_2.length ∧ kq + i = l0_2.length + 1) ∧ Aside0 (Sp w ([Res.row kI 2 w.heap.size (.slice Ao (forcedRows i F).length co) (forcedRows i F), Res.blk g #[.int .i64 a0_0, .int .i64 a0_1, .slice A0_2 l0_2.length c0_2, .int .i64 20000, .int .i64 st, .slice A4 F.length c4, .int .i64 20001, .bool ov] 55, Res.row kL 32 bs (.slice A4 F.length c4) F, Res.blk gb #[.int .i64 a0_0, .int .i64 a0_1, .slice A0_2 l0_2.length c0_2] 28]) w'))
        case atStart => exact ⟨0, Ao, co, rfl, rfl, ⟨by omega, by omega⟩, HS⟩
        case round =>
          clear HS
          obtain ⟨i, Ao, co, rfl, rfl, HX, HS⟩ := hrel
          obtain ⟨k1, rfl⟩ : ∃ k1, gk = k1 + 1 := ⟨gk - 1, by have := HX.out; omega⟩
          have HW := A0_ (wrap_succ i (by have := HLN.out; have := HX.out; omega))
          have HFW := A0_ (forced_len i F)
          have HFN := A0_ (forced_next i F)
          have hb2 := (blk_cell (Sp.blk HS.out (i := 3) rfl).1 2).trans rfl
          by_cases ci : i < l0_2.length
          · have ci0 : decide (i < l0_2.length) = true := decide_eq_true ci
            have ci1 := eq_true ci
            clear ci
            go_wp2
            go_loopg [8, 9] (F.length + 1) (fun kq v8 v9 w' => ∃ (j : Nat), v9 = .int .i64 (j : Int) ∧ v8 = .int .i64 ((cntHas (F.take j) (i : Int) : Nat) : Int) ∧ Aside0 (j ≤ F.length ∧ kq + j = F.length + 1) ∧ Aside0 (Sp w ([Res.row kI 2 w.heap.size (.slice Ao (forcedRows i F).length co) (forcedRows i F), Res.blk g #[.int .i64 a0_0, .int .i64 a0_1, .slice A0_2 l0_2.length c0_2, .int .i64 20000, .int .i64 st, .slice A4 F.length c4, .int .i64 20001, .bool ov] 55, Res.row kL 32 bs (.slice A4 F.length c4) F, Res.blk gb #[.int .i64 a0_0, .int .i64 a0_1, .slice A0_2 l0_2.length c0_2] 28]) w'))
            case atStart => exact ⟨0, rfl, rfl, ⟨by omega, by omega⟩, HS⟩
            case round =>
              clear HS hb2
              obtain ⟨j, rfl, rfl, HY, HS⟩ := hrel
              obtain ⟨k2, rfl⟩ : ∃ k2, gk = k2 + 1 := ⟨gk - 1, by have := HY.out; omega⟩
              have hg5 := (blk_cell (Sp.blk HS.out (i := 1) rfl).1 5).trans rfl
              by_cases cj : j < F.length
              · have cj0 : decide (j < F.length) = true := decide_eq_true cj
                have q0 : (0 ≤ (j : Int)) = True := eq_true (by omega)
                have q1 : ((j : Int) < (F.length : Int)) = True := eq_true (by omega)
                obtain ⟨ad2, Ar, cr, e2, hx0, hx1, hx2⟩ := at_L1 (Sp.reads HS.out (i := 2) rfl).2.2 (j : Int) (by omega) (by omega)
                cases e2
                have er : rd_L1 F (j : Int) = F[j] := by unfold rd_L1; simp [cj]
                rw [er] at hx0 hx1 hx2
                rw [Int.toNat_natCast] at hx0
                have HCN := A0_ (cntHas_next F (i : Int) j cj)
                have HCL := A0_ (show cntHas (F.take j) (i : Int) ≤ 20001 from Nat.le_trans (cntHas_le _ _) (by rw [List.length_take]; have := HFL.out; omega))
                obtain ⟨kh, hkh⟩ := (l01Has_ev F[j] (i : Int) (by have := (HFD.out _ (List.getElem_mem cj)).2.1; omega)).rounds
                have HKH := A0_ hkh
                have HX2 := A0_ hx2
                have HX1 := A0_ hx1
                have HWJ := A0_ (wrap_succ j (by have := HFL.out; omega))
                have HWC := A0_ (wrap_succ (cntHas (F.take j) (i : Int)) (by have := HCL.out; omega))
                have hxl : F[j].length ≤ cr := hx1
                generalize F[j] = s at *
                clear hkh hx2 hx1 cj er hxl
                by_cases d : s.contains (i : Int) = true
                · rw [if_pos d] at HCN
                  rw [d] at HKH
                  clear d
                  go_wp2_with (first
                    | (go_at_call 54; go_loud (refine (spec_l01Has.calls kh Ar cr s (i : Int) true _ HX2.out HX1.out HKH.out).mono ?_; rintro e wc_ ⟨rfl, hd_⟩; have HS_ := A0_ (Sp.far HS.out hd_.below); clear HS; have HS := HS_; clear HS_; clear hd_ hx0 hg5)))
                  go_roundg k2
                  case measure => omega
                  case rel =>
                    rw [HWJ.out, HWC.out]
                    exact ⟨j + 1, rfl, by rw [HCN.out], ⟨by have := of_decide_eq_true cj0; omega, by have := HY.out; omega⟩, HS⟩
                · rw [if_neg d] at HCN
                  rw [Bool.eq_false_iff.mpr d] at HKH
                  clear d
                  go_wp2_with (first
                    | (go_at_call 54; go_loud (refine (spec_l01Has.calls kh Ar cr s (i : Int) false _ HX2.out HX1.out HKH.out).mono ?_; rintro e wc_ ⟨rfl, hd_⟩; have HS_ := A0_ (Sp.far HS.out hd_.below); clear HS; have HS := HS_; clear HS_; clear hd_ hx0 hg5)))
                  go_roundg k2
                  case measure => omega
                  case rel =>
                    rw [HWJ.out]
                    exact ⟨j + 1, rfl, by rw [HCN.out, Nat.add_zero], ⟨by have := of_decide_eq_true cj0; omega, by have := HY.out; omega⟩, HS⟩
              · have cj0 : decide (j < F.length) = false := decide_eq_false cj
                have hj : j = F.length := by have := HY.out; omega
                have HCA := A0_ (show cntHas (F.take j) (i : Int) = F.length ↔ (F.all fun s => s.contains (i : Int)) = true by rw [hj, List.take_length]; exact cntHas_all F i)
                clear hj cj
                generalize cntHas (F.take j) (i : Int) = q at HCA ⊢
                by_cases d : q = F.length
                · have d0 : (q == F.length) = true := by rw [beq_iff_eq]; exact d
                  have d1 : (((q : Nat) : Int) == ((F.length : Nat) : Int)) = true := by rw [beq_iff_eq]; omega
                  have HFN2 := A0_ (show forcedRows (i + 1) F = forcedRows i F ++ [(i : Int)] by rw [HFN.out, if_pos (HCA.out.1 d)])
                  have d2 := eq_true d
                  clear d
                  go_wp2_with (first
                    | ((with_reducible refine gate_builtin (b := .append) (xs := #[.tmp 59, .tmp 61]) rfl ?_); go_loud (at_builtin; obtain ⟨fp_, ho_, hf_, hc_⟩ := Sp.row HS.out (i := 0) rfl; refine Kd.R_append kI (w0 := w) w.heap.size rfl (.tmp 59) (.tmp 61) 32 2 (.int .i64 0) 8 rfl Tryd.underlying32 info2 rfl (by decide) (by omega) (.slice Ao (forcedRows i F).length co) (forcedRows i F) ((i : Int)) ([.int .i64 (i : Int)]) _ (fun _ => False) rfl rfl rfl (fun _ hk => hk.elim) (fun _ h => Or.inr h) ho_ HS.out.below HS.out.below.size ?aL ?_; (case aL => have := HFW.out; have := HX.out; have := HLN.out; omega); intro va_ wa_ ho hb hg hat; have HS_ := A0_ (hc_ _ _ _ ho hg); clear HS; have HS := HS_; clear HS_; clear ho hb hg hat hc_ hf_ ho_ fp_; obtain ⟨Ao2, co2, ev_⟩ := Sp.slice HS.out (i := 0) rfl; subst ev_; rw [← HFN2.out] at HS)))
                  go_roundg k1
                  case measure => omega
                  case rel =>
                    rw [HW.out]
                    exact ⟨i + 1, Ao2, co2, rfl, by rw [HFN2.out, List.length_append]; rfl, ⟨by have := of_decide_eq_true ci0; omega, by have := HX.out; omega⟩, HS⟩
                · have d0 : (q == F.length) = false := by rw [beq_eq_false_iff_ne]; exact d
                  have d1 : (((q : Nat) : Int) == ((F.length : Nat) : Int)) = false := by rw [beq_eq_false_iff_ne]; omega
                  have HFN2 := A0_ (show forcedRows (i + 1) F = forcedRows i F by rw [HFN.out, if_neg (fun hh => d (HCA.out.2 hh)), List.append_nil])
                  have d2 := eq_false d
                  clear d
                  go_wp2
                  go_roundg k1
                  case measure => omega
                  case rel =>
                    rw [HW.out]
                    exact ⟨i + 1, Ao, co, rfl, by rw [HFN2.out], ⟨by have := of_decide_eq_true ci0; omega, by have := HX.out; omega⟩, by rw [HFN2.out]; exact HS⟩
          · have ci0 : decide (i < l0_2.length) = false := decide_eq_false ci
            have hi : i = l0_2.length := by have := HX.out; omega
            have HI := A0_ hi
            clear ci hi
            go_wp2
            go_ret2
            obtain ⟨fp_, hp_, _⟩ := Sp.get HS.out (i := 0) rfl
            refine ⟨_, rfl, ?_, HS.out.below⟩
            rw [← HI.out]
            exact Kd.R_mono hp_ (fun _ _ => trivial)
  · rw [if_neg c] at h2
    injection h2 with q1 q2
    subst q1 q2
    rw [Bool.eq_false_iff.mpr c] at HK
    clear c hz
    go_enter Tryd.func23, Tryd.ntmps23
    go_wp2_with (first
      | ((with_reducible refine gate_dst (N := 1) rfl ?_); go_loud (refine box_event ?hg (N := 1) ?hd (cs := #[.int .i64 a0_0, .int .i64 a0_1, .slice A0_2 l0_2.length c0_2]) (t := 28) ?hr ?_; (case hd => rfl); (case hg => rfl); (case hr => first | (go_simp; done) | (go_simp; rfl)); intro gb hgb_ wb_ hcb_ hbb_; have HS_ := A0_ (Sp.boxed HS.out hgb_ hcb_ hbb_); clear HS; have HS := HS_; clear HS_; clear hgb_ hcb_ hbb_; have hb0 := (blk_cell (Sp.blk HS.out (i := 0) rfl).1 0).trans rfl; have hb1 := (blk_cell (Sp.blk HS.out (i := 0) rfl).1 1).trans rfl; have hb2 := (blk_cell (Sp.blk HS.out (i := 0) rfl).1 2).trans rfl))
      | (go_at_call 42; go_loud (refine (spec_l14All.bad K a0_0 a0_1 l0_2 _ A0_2 c0_2 (Kd.C_below HR.out HS.out.below) hc0_2 HK.out).mono ?_; rintro e wc_ ⟨rfl, hb_⟩; have HS_ := A0_ (Sp.far HS.out hb_); clear HS; have HS := HS_; clear HS_; clear hb_ hb0 hb1 hb2)))
    go_ret2
    exact ⟨_, rfl, Kd.R_nil kI 2 _ _ _, HS.out.below⟩
end Go.Proofs.YtoglcgnbkibpgaaDoor.A

/- Arguments of a law opened as plain data, kind by kind: what can be read at a type is a value of its kind. -/
namespace Go.Proofs.YtoglcgnbkibpgaaDoor.Opn
open Go.RowKit Go.Proofs.YtoglcgnbkibpgaaDoorW.PrintWords
/-- What reads at type t is a value of kind d, of which ok holds. -/
def Op {α : Type} (P : Program) (t : TypeId) (d : Kd α) (ok : α → Prop) : Prop :=
  ∀ (H : Type) (enc : TypeId × Value → H) (W : World) (fuel : Nat) (cs : List Value) (x : DataW H × List MemPlace),
    DataW.trod enc P W 0 (fun _ => true) true fuel t cs = some x → ∃ a : α, d.K W a cs ∧ ok a
/-- The same of a struct's fields from one on, which begins at cell o. -/
def OpF {α : Type} (P : Program) (o : Nat) (fs : List Field) (d : Kd α) (ok : α → Prop) : Prop :=
  ∀ (H : Type) (enc : TypeId × Value → H) (W : World) (fuel : Nat) (cs : List Value) (xs : List (DataW H × List MemPlace)), cs.length = o + d.sz →
    xs.length = fs.length → (∀ (i : Nat) (f : Field), fs[i]? = some f → DataW.trod enc P W 0 (fun _ => true) true fuel f.type ((cs.drop f.offset).take (P.cellsOf f.type)) = xs[i]?) → ∃ a : α, d.K W a (cs.drop o) ∧ ok a
def okInt (k : IntKind) (n : Int) : Prop := (Lit.int k n).wf = true
def okAll {α : Type} (ok : α → Prop) (l : List α) : Prop := l.length ≤ maxLen ∧ ∀ x ∈ l, ok x
def okTwo {α β : Type} (ok : α → Prop) (ok' : β → Prop) (x : α × β) : Prop := ok x.1 ∧ ok' x.2
theorem Op.int {P : Program} {t : TypeId} {k : IntKind} (ht : P.underlying t = some (.int k)) : Op P t (Kd.int k) (okInt k) := by
  intro H enc W fuel cs x h
  obtain ⟨n, rfl, _, hw⟩ := DataW.trod_int ht h
  exact ⟨n, rfl, hw⟩
theorem Op.bool {P : Program} {t : TypeId} (ht : P.underlying t = some .bool) : Op P t Kd.bool (fun _ => True) := by
  intro H enc W fuel cs x h
  obtain ⟨b, rfl, _⟩ := DataW.trod_bool ht h
  exact ⟨b, rfl, trivial⟩
theorem Op.iso {α β : Type} {P : Program} {t : TypeId} {d : Kd α} {ok : α → Prop} (h : Op P t d ok) (f : β → α) (g : α → β) (hfg : ∀ a, f (g a) = a) : Op P t (Kd.iso d f) (fun b => ok (f b)) := by
  intro H enc W fuel cs x hx
  obtain ⟨a, ha, hok⟩ := h H enc W fuel cs x hx
  refine ⟨g a, ?_, ?_⟩
  · show d.K W (f (g a)) cs
    rw [hfg]
    exact ha
  · show ok (f (g a))
    rw [hfg]
    exact hok
theorem list_of_lt {α : Type} {p : Nat → α → Prop} : ∀ n, (∀ i, i < n → ∃ a, p i a) → ∃ l : List α, l.length = n ∧ ∀ i a, l[i]? = some a → p i a
  | 0, _ => ⟨[], rfl, fun i a h => by simp at h⟩
  | n + 1, h => by
    obtain ⟨l, hl, hp⟩ := list_of_lt n (fun i hi => h i (by omega))
    obtain ⟨a, ha⟩ := h n (by omega)
    refine ⟨l ++ [a], by simp [hl], fun i b hb => ?_⟩
    by_cases hi : i < l.length
    · rw [List.getElem?_append_left hi] at hb
      exact hp i b hb
    · have hlt : i < (l ++ [a]).length := (List.getElem?_eq_some_iff.1 hb).1
      simp at hlt
      have : i = l.length := by omega
      subst this
      have hab : a = b := by simpa using hb
      subst hab
      rw [hl]
      exact ha
theorem Op.slice {α : Type} {P : Program} {t e : TypeId} {d : Kd α} {ok : α → Prop} (ht : P.underlying t = some (.slice e)) (hc : P.cellsOf e = d.sz) (h : Op P e d ok) :
    Op P t (Kd.slice e d) (okAll ok) := by
  intro H enc W fuel cs x hx
  rcases Deep.open_slice ht hx with ⟨rfl, _⟩ | ⟨a, len, cap, m, n, D, Pl, rfl, hb, hl, hm, hmm, _, hel⟩
  · exact ⟨[], ⟨none, 0, rfl, Nat.le_refl _, rfl, by simp, fun h => absurd h (by simp)⟩, by simp [okAll]⟩
  · rw [if_pos rfl] at hmm
    subst hmm
    obtain ⟨l, hlen, hl2⟩ := list_of_lt (p := fun i (y : α) => (∃ c, c.length = d.sz ∧ d.K W y c ∧ ∀ j u, c[j]? = some u → W.cell? (a.add (i * d.sz + j)) = some u) ∧ ok y) len (fun i hi => by
      obtain ⟨cs', h1, h2⟩ := hel i (by omega)
      obtain ⟨y, hy, hok⟩ := h H enc W n cs' _ h2
      obtain ⟨_, h3, h4⟩ := World.cells?_some h1
      refine ⟨y, ⟨cs', d.K_len hy, hy, fun j u hu => ?_⟩, hok⟩
      have hj : j < P.cellsOf e := by rw [← h3]; exact (List.getElem?_eq_some_iff.1 hu).1
      have h5 := h4 j hj
      rw [← hu, ← h5, hc, Addr.add_add])
    unfold maxLen at hm
    refine ⟨l, ⟨some a, m, by rw [hlen], by omega, rfl, by omega, fun _ => ⟨a, rfl, fun j p hj => (hl2 j p hj).1⟩⟩, by unfold maxLen; omega, fun y hy => ?_⟩
    obtain ⟨i, hi, rfl⟩ := List.getElem_of_mem hy
    exact (hl2 i _ (List.getElem?_eq_getElem hi)).2
theorem OpF.one {α : Type} {P : Program} {o : Nat} {f : Field} {d : Kd α} {ok : α → Prop} (ho : f.offset = o) (hc : P.cellsOf f.type = d.sz) (h : Op P f.type d ok) : OpF P o [f] d ok := by
  intro H enc W fuel cs xs hl hn hx
  match xs, hn with
  | [y], _ =>
  have hy := hx 0 f rfl
  simp only [List.getElem?_cons_zero] at hy
  rw [ho, hc, List.take_of_length_le (by simp; omega)] at hy
  exact h H enc W fuel _ _ hy
theorem OpF.cons {α β : Type} {P : Program} {o : Nat} {f : Field} {fs : List Field} {d : Kd α} {d' : Kd β} {ok : α → Prop} {ok' : β → Prop} (ho : f.offset = o) (hc : P.cellsOf f.type = d.sz) (h : Op P f.type d ok)
    (hr : OpF P (o + d.sz) fs d' ok') : OpF P o (f :: fs) (Kd.pair d d') (okTwo ok ok') := by
  intro H enc W fuel cs xs hl hn hx
  match xs, hn with
  | y :: ys, hn =>
  have hy := hx 0 f rfl
  have hys : ∀ (i : Nat) (f : Field), fs[i]? = some f → DataW.trod enc P W 0 (fun _ => true) true fuel f.type ((cs.drop f.offset).take (P.cellsOf f.type)) = ys[i]? := fun i g hg => by simpa using hx (i + 1) g (by simpa using hg)
  simp only [List.getElem?_cons_zero] at hy
  rw [ho, hc] at hy
  obtain ⟨a, ha, hok⟩ := h H enc W fuel _ _ hy
  obtain ⟨b, hb, hok'⟩ := hr H enc W fuel cs ys (by rw [hl]; show o + (d.sz + d'.sz) = _; omega) (by simpa using hn) hys
  refine ⟨(a, b), ⟨_, _, ?_, ha, hb⟩, hok, hok'⟩
  rw [← List.drop_drop, List.take_append_drop]
theorem Op.struct {α : Type} {P : Program} {t : TypeId} {fs : Array Field} {d : Kd α} {ok : α → Prop} (ht : P.underlying t = some (.struct fs)) (hc : P.cellsOf t = d.sz) (h : OpF P 0 fs.toList d ok) : Op P t d ok := by
  intro H enc W fuel cs x hx
  obtain ⟨xs, n, _, _, hl, hn, hxs⟩ := DataW.trod_struct ht hx
  obtain ⟨a, ha, hok⟩ := h H enc W n cs xs (by omega) (by simpa using hn) (fun i f hf => hxs i f (by simpa using hf))
  exact ⟨a, by simpa using ha, hok⟩
end Go.Proofs.YtoglcgnbkibpgaaDoor.Opn

namespace Go.Proofs.YtoglcgnbkibpgaaDoor.A
open Go.RowKit Go.Proofs.YtoglcgnbkibpgaaDoorW.PrintWords Go.Proofs.YtoglcgnbkibpgaaDoorW.PrintLast Go.Proofs.YtoglcgnbkibpgaaDoorW.PrintMore
attribute [local go_sem] max2_int min2_int max_two min_two max_three min_three max_four min_four   -- for this text's walks alone
set_option linter.unusedVariables false
set_option linter.unusedSimpArgs false
def laws_szInt64S.f (l0 : List Int) (a1 : Int) : Option (Int) := if (wrap64 (a1 - (l0.length : Int))) < 0 then (some (-1)) else (some (wrap64 (a1 - (l0.length : Int))))
set_option maxHeartbeats 8000000 in
set_option maxRecDepth 100000 in
theorem laws_szInt64S.calls (A0 : Option Addr) (c0 : Nat) (l0 : List Int) (a1 : Int) (r : Int) (w : World) (hr0 : Kd.C (Kd.int .i64) w A0 l0.length l0) (hc0 : l0.length ≤ c0) (h : laws_szInt64S.f l0 a1 = some r) :
    Calls Tryd.prog 71 #[.slice A0 l0.length c0, .int .i64 a1] w fun e w' => e = .returned (.int .i64 r) ∧ Drawn0 w w' := by
 (have HR0 := A0_ hr0); (have HC0 := A0_ hc0); clear hr0 hc0; (have H : (if (wrap64 (a1 - (l0.length : Int))) < 0 then (some (-1)) else (some (wrap64 (a1 - (l0.length : Int))))) = some r := h); clear h; (by_cases c3 : (wrap64 (a1 - (l0.length : Int))) < 0)
 ·(rw [if_pos c3] at H); (have c3b0 : decide ((wrap64 (a1 - (l0.length : Int))) < 0) = true := decide_eq_true c3); clear c3; (obtain rfl := Option.some.inj H); (go_enter Tryd.func71, Tryd.ntmps71); go_wp2; go_ret; (exact ⟨by first | rfl | (simp; done) | (simp [*]; done), by repeat (first | exact Drawn0.refl _ | apply Drawn0.step)⟩)
 ·(rw [if_neg c3] at H); (have c3b0 : decide ((wrap64 (a1 - (l0.length : Int))) < 0) = false := decide_eq_false c3); clear c3; (obtain rfl := Option.some.inj H); (go_enter Tryd.func71, Tryd.ntmps71); go_wp2; go_ret; (exact ⟨by first | rfl | (simp; done) | (simp [*]; done), by repeat (first | exact Drawn0.refl _ | apply Drawn0.step)⟩)
end Go.Proofs.YtoglcgnbkibpgaaDoor.A

namespace Go.Proofs.YtoglcgnbkibpgaaDoor.A
open Go.RowKit Go.Proofs.YtoglcgnbkibpgaaDoorW.PrintWords Go.Proofs.YtoglcgnbkibpgaaDoorW.PrintLast Go.Proofs.YtoglcgnbkibpgaaDoorW.PrintMore
attribute [local go_sem] max2_int min2_int max_two min_two max_three min_three max_four min_four   -- for this text's walks alone
set_option linter.unusedVariables false
set_option linter.unusedSimpArgs false
def laws_szInt64SS.l0 : Nat → List (List Int) → Int → Int → Option (Int)
  | 0, _, _, _ => none
  | k + 1, x0, x1, x5 => if x5 < (x0.length : Int) then (if 0 ≤ x5 then ((laws_szInt64S.f (rd_L1 x0 x5) x1).bind fun t102 => (if t102 < 0 then (some (-1)) else (laws_szInt64SS.l0 k x0 t102 (wrap64 (x5 + 1))))) else (none)) else (some x1)
def laws_szInt64SS.f (k : Nat) (l0 : List (List Int)) (a1 : Int) : Option (Int) := if (wrap64 (a1 - (l0.length : Int))) < 0 then (some (-1)) else (laws_szInt64SS.l0 k l0 (wrap64 (a1 - (l0.length : Int))) 0)
set_option maxHeartbeats 8000000 in
set_option maxRecDepth 100000 in
theorem laws_szInt64SS.calls (k : Nat) (A0 : Option Addr) (c0 : Nat) (l0 : List (List Int)) (a1 : Int) (r : Int) (w : World) (hr0 : Kd.C (Kd.slice 2 (Kd.int .i64)) w A0 l0.length l0) (hc0 : l0.length ≤ c0) (h : laws_szInt64SS.f k l0 a1 = some r) :
    Calls Tryd.prog 41 #[.slice A0 l0.length c0, .int .i64 a1] w fun e w' => e = .returned (.int .i64 r) ∧ Drawn0 w w' := by
 (have HR0 := A0_ hr0); (have HC0 := A0_ hc0); clear hr0 hc0; (have H : (if (wrap64 (a1 - (l0.length : Int))) < 0 then (some (-1)) else (laws_szInt64SS.l0 k l0 (wrap64 (a1 - (l0.length : Int))) 0)) = some r := h); clear h; (by_cases c3 : (wrap64 (a1 - (l0.length : Int))) < 0)
 ·(rw [if_pos c3] at H); (have c3b0 : decide ((wrap64 (a1 - (l0.length : Int))) < 0) = true := decide_eq_true c3); clear c3; (obtain rfl := Option.some.inj H); (go_enter Tryd.func41, Tryd.ntmps41); go_wp2; go_ret; (exact ⟨by first | rfl | (simp; done) | (simp [*]; done), by repeat (first | exact Drawn0.refl _ | apply Drawn0.step)⟩)
 ·(rw [if_neg c3] at H); (have c3b0 : decide ((wrap64 (a1 - (l0.length : Int))) < 0) = false := decide_eq_false c3); clear c3; (have H' := A0_ H); clear H; (go_enter Tryd.func41, Tryd.ntmps41); go_wp2
  go_loopg [1, 5] k (fun kq v1 v5 w' => ∃ (x1_1 : Int) (x5_1 : Int), v1 = .int .i64 x1_1 ∧ v5 = .int .i64 x5_1 ∧ Aside0 (laws_szInt64SS.l0 kq l0 x1_1 x5_1 = some r) ∧ Aside0 (kq ≤ k) ∧ Drawn0 w w')
  case atStart => exact ⟨(wrap64 (a1 - (l0.length : Int))), (0), (by first | rfl | (simp; done) | (simp [*]; done)), (by first | rfl | (simp; done) | (simp [*]; done)), H', ⟨Nat.le_refl _⟩, by repeat (first | exact Drawn0.refl _ | apply Drawn0.step)⟩
  case round =>
   clear H'; (try clear p2); (try clear c3); (try clear c3b0); (obtain ⟨x1_1, x5_1, rfl, rfl, HA, HK1, ⟨m1, rfl⟩⟩ := hrel)
   cases gk with
   | zero => exact absurd HA.out (by simp [laws_szInt64SS.l0])
   | succ k1 =>
    (have H := HA.out); clear HA; (simp only [laws_szInt64SS.l0] at H); (by_cases c4 : x5_1 < (l0.length : Int))
    ·(rw [if_pos c4] at H); (have c4b0 : decide (x5_1 < (l0.length : Int)) = true := decide_eq_true c4); clear c4; (by_cases c5 : 0 ≤ x5_1)
     ·(rw [if_pos c5] at H); (have c5b0 : decide (0 ≤ x5_1) = true := decide_eq_true c5); clear c5; (replace H := Option.bind_eq_some_iff.mp H); (obtain ⟨t102, A60, H⟩ := H); (try dsimp only at H); (have A6 := A0_ A60); clear A60; (have H0_ := A0_ H); clear H; (have p101 : 0 ≤ (x5_1 : Int) := of_decide_eq_true (by first | (with_reducible assumption) | assumption)); (have q101 : x5_1 < (l0.length : Int) := of_decide_eq_true (by first | (with_reducible assumption) | assumption)); (obtain ⟨ad101, A101_0, c101_0, e101, hx101_0, hl101_0, hi101_0⟩ := at_L1 HR0.out x5_1 p101 q101); (cases e101); (have HR101_0 := A0_ hi101_0); (have HC101_0 := A0_ hl101_0); clear hi101_0 hl101_0; (replace p101 := eq_true p101); (replace q101 := eq_true q101); (go_wp2_with (first | ((with_reducible refine gate_callee (f := 71) rfl ?_); refine goesL_ (some 23) rfl rfl Tryd.func71 (by kernel_rfl) rfl #[.slice A101_0 (rd_L1 l0 x5_1).length c101_0, .int .i64 x1_1] rfl (by (try simp only [List.map_toArray, List.map_cons, List.map_nil]); first | done | rfl | (simp only [List.length_drop, List.length_take]; rfl)) ?_; (with_reducible refine (laws_szInt64S.calls _ _ (rd_L1 l0 x5_1) x1_1 t102 _ ?side1 ?side2 A6.out).mono ?_); (case side1 => repeat (first | exact HR101_0.out | (with_reducible refine Kd.C_alloc ?_ _) | (with_reducible refine Kd.C_drewN ?_ _) | (with_reducible refine Kd.C_drew ?_))); (case side2 => exact HC101_0.out); rintro e w' ⟨rfl, ⟨nd, rfl⟩⟩; refine ⟨_, rfl, ?_⟩; refine Stop0.out ?_))); (refine Stop0.mk ?_); (have H := H0_.out); clear H0_; (by_cases c7 : t102 < 0)
      ·(rw [if_pos c7] at H); (have c7b0 : decide (t102 < 0) = true := decide_eq_true c7); clear c7; (obtain rfl := Option.some.inj H); go_wp2; go_ret; (exact ⟨by first | rfl | (simp; done) | (simp [*]; done), by repeat (first | exact Drawn0.refl _ | apply Drawn0.step)⟩)
      ·(rw [if_neg c7] at H); (have c7b0 : decide (t102 < 0) = false := decide_eq_false c7); clear c7; (have H' := A0_ H); clear H; go_wp2; (go_roundg k1)
       case measure => have := HK1.out; omega
       case rel => exact ⟨(t102), (wrap64 (x5_1 + 1)), (by first | rfl | (simp; done) | (simp [*]; done)), (by first | rfl | (simp; done) | (simp [*]; done)), H', ⟨by have := HK1.out; omega⟩, by repeat (first | exact Drawn0.refl _ | apply Drawn0.step)⟩
     ·(rw [if_neg c5] at H); (exact absurd H (by simp))
    ·(rw [if_neg c4] at H); (have c4b0 : decide (x5_1 < (l0.length : Int)) = false := decide_eq_false c4); clear c4; (obtain rfl := Option.some.inj H); go_wp2; go_ret; (exact ⟨by first | rfl | (simp; done) | (simp [*]; done), by repeat (first | exact Drawn0.refl _ | apply Drawn0.step)⟩)
end Go.Proofs.YtoglcgnbkibpgaaDoor.A

namespace Go.Proofs.YtoglcgnbkibpgaaDoor.A
open Go.RowKit Go.Proofs.YtoglcgnbkibpgaaDoorW.PrintWords Go.Proofs.YtoglcgnbkibpgaaDoorW.PrintLast Go.Proofs.YtoglcgnbkibpgaaDoorW.PrintMore
attribute [local go_sem] max2_int min2_int max_two min_two max_three min_three max_four min_four   -- for this text's walks alone
set_option linter.unusedVariables false
set_option linter.unusedSimpArgs false
def laws_szCover.f (k : Nat) (a0_0 : Int) (a0_1 : Int) (l0_2 : List (List Int)) (a1 : Int) : Option (Int) := (laws_szInt64SS.f k l0_2 a1).bind fun t104 => (if t104 < 0 then (some (-1)) else (some t104))
set_option maxHeartbeats 8000000 in
set_option maxRecDepth 100000 in
theorem laws_szCover.calls (k : Nat) (a0_0 : Int) (a0_1 : Int) (A0_2 : Option Addr) (c0_2 : Nat) (l0_2 : List (List Int)) (a1 : Int) (r : Int) (w : World) (hr0_2 : Kd.C (Kd.slice 2 (Kd.int .i64)) w A0_2 l0_2.length l0_2) (hc0_2 : l0_2.length ≤ c0_2) (h : laws_szCover.f k a0_0 a0_1 l0_2 a1 = some r) :
    Calls Tryd.prog 10 #[.agg #[.int .i64 a0_0, .int .i64 a0_1, .slice A0_2 l0_2.length c0_2], .int .i64 a1] w fun e w' => e = .returned (.int .i64 r) ∧ Below w.heap.size w w' := by
 (have hu24 := Tryd.underlying24); (have HR0_2 := A0_ hr0_2); (have HC0_2 := A0_ hc0_2); clear hr0_2 hc0_2; (have HB := A0_ (Below.refl w.heap.size w))
 have H : ((laws_szInt64SS.f k l0_2 a1).bind fun t104 => (if t104 < 0 then (some (-1)) else (some t104))) = some r := h
 clear h; (replace H := Option.bind_eq_some_iff.mp H); (obtain ⟨t104, A30, H⟩ := H); (try dsimp only at H); (have A3 := A0_ A30); clear A30; (have H0_ := A0_ H); clear H; (go_enter Tryd.func10, Tryd.ntmps10); (go_wp2_with (first | ((with_reducible refine gate_dst (N := 2) rfl ?_); refine box_event ?hg (N := 2) ?hd (cs := #[.int .i64 a0_0, .int .i64 a0_1, .slice A0_2 l0_2.length c0_2]) (t := 24) ?hr ?_; (case hd => rfl); (case hg => rfl); (case hr => first | (go_simp; done) | (go_simp; rfl)); intro gb103 hg w4 hbox hb; have n0_ := A0_ (below_step (by repeat (first | (with_reducible first | exact HB.out | apply ba_ | apply bn_ | apply bd_) | exact HB.out)) hb); have n1_ := A0_ (hbox); have n2_ := A0_ ((by rw [hg]; exact (below_size (by repeat (first | (with_reducible first | exact HB.out | apply ba_ | apply bn_ | apply bd_) | exact HB.out))) : w.heap.size ≤ gb103)); have n3_ := A0_ ((by rw [hg]; exact (below_size (by repeat (first | (with_reducible first | exact HB.out | apply ba_ | apply bn_ | apply bd_) | exact HB.out))) : w.heap.size ≤ gb103)); clear HB; have HB := n0_; have BK103 := n1_; have GW103 := n2_; have GE103 := n3_; clear n0_ n1_ n2_ n3_; clear hb hbox hg; have hcz5_0 : w4.cell? ⟨gb103, 0, none⟩ = some (.int .i64 a0_0) := (blk_cell BK103.out 0).trans rfl; have hcz5_1 : w4.cell? ⟨gb103, 1, none⟩ = some (.int .i64 a0_1) := (blk_cell BK103.out 1).trans rfl; have hcz5_2 : w4.cell? ⟨gb103, 2, none⟩ = some (.slice A0_2 l0_2.length c0_2) := (blk_cell BK103.out 2).trans rfl; have hfz5_0 := blk_frozen BK103.out 0; have hfz5_1 := blk_frozen BK103.out 1; have hfz5_2 := blk_frozen BK103.out 2) | ((with_reducible refine gate_callee (f := 41) rfl ?_); refine goesL_ (some 8) rfl rfl Tryd.func41 (by kernel_rfl) rfl #[.slice A0_2 l0_2.length c0_2, .int .i64 a1] rfl (by (try simp only [List.map_toArray, List.map_cons, List.map_nil]); first | done | rfl | (simp only [List.length_drop, List.length_take]; rfl)) ?_; (with_reducible refine (laws_szInt64SS.calls k _ _ l0_2 a1 t104 _ ?side1 ?side2 A3.out).mono ?_); (case side1 => repeat (first | exact (Kd.C_below HR0_2.out HB.out) | (with_reducible refine Kd.C_alloc ?_ _) | (with_reducible refine Kd.C_drewN ?_ _) | (with_reducible refine Kd.C_drew ?_))); (case side2 => exact HC0_2.out); rintro e w' ⟨rfl, ⟨nd, rfl⟩⟩; refine ⟨_, rfl, ?_⟩; refine Stop0.out ?_))); (refine Stop0.mk ?_); (have H := H0_.out); clear H0_; (by_cases c6 : t104 < 0)
 ·(rw [if_pos c6] at H); (have c6b0 : decide (t104 < 0) = true := decide_eq_true c6); clear c6; (obtain rfl := Option.some.inj H); go_wp2; go_ret; (exact ⟨by first | rfl | (simp [errW_none, errW_some] <;> rfl) | (simp [*, errW_none, errW_some] <;> rfl), by repeat (first | (with_reducible first | exact HB.out | apply ba_ | apply bn_ | apply bd_ | refine below_set ?_ GE103.out) | exact HB.out)⟩)
 ·(rw [if_neg c6] at H); (have c6b0 : decide (t104 < 0) = false := decide_eq_false c6); clear c6; (obtain rfl := Option.some.inj H); go_wp2; go_ret; (exact ⟨by first | rfl | (simp [errW_none, errW_some] <;> rfl) | (simp [*, errW_none, errW_some] <;> rfl), by repeat (first | (with_reducible first | exact HB.out | apply ba_ | apply bn_ | apply bd_ | refine below_set ?_ GE103.out) | exact HB.out)⟩)
end Go.Proofs.YtoglcgnbkibpgaaDoor.A

namespace Go.Proofs.YtoglcgnbkibpgaaDoor.A
open Go.RowKit Go.Proofs.YtoglcgnbkibpgaaDoorW.PrintWords Go.Proofs.YtoglcgnbkibpgaaDoorW.PrintLast Go.Proofs.YtoglcgnbkibpgaaDoorW.PrintMore
attribute [local go_sem] max2_int min2_int max_two min_two max_three min_three max_four min_four   -- for this text's walks alone
set_option linter.unusedVariables false
set_option linter.unusedSimpArgs false
def laws_toInt64S.l0 : Nat → List Int → List Int → Int → Option (List Int)
  | 0, _, _, _ => none
  | k + 1, x0, x3, x4 => if x4 < (x0.length : Int) then (if 0 ≤ x4 then (if x4 < (x3.length : Int) then (laws_toInt64S.l0 k x0 (x3.set (x4 : Int).toNat (rd x0 x4)) (wrap64 (x4 + 1))) else (none)) else (none)) else (some x3)
def laws_toInt64S.f (k : Nat) (l0 : List Int) : Option (List Int) := if 0 ≤ (l0.length : Int) then (if ((l0.length : Int) : Int).toNat ≤ 35184372088832 then (laws_toInt64S.l0 k l0 (List.replicate ((l0.length : Int) : Int).toNat 0) 0) else (none)) else (none)
set_option maxHeartbeats 8000000 in
set_option maxRecDepth 100000 in
theorem laws_toInt64S.calls (k : Nat) (A0 : Option Addr) (c0 : Nat) (l0 : List Int) (r : List Int) (w : World) (hr0 : Kd.C (Kd.int .i64) w A0 l0.length l0) (hc0 : l0.length ≤ c0) (h : laws_toInt64S.f k l0 = some r) :
    Calls Tryd.prog 72 #[.slice A0 l0.length c0] w fun e w' => ∃ v0_ : Value, e = .returned (v0_) ∧ Kd.R (Kd.int .i64) 2 w' w.heap.size (fun _ => True) v0_ r ∧ Below w.heap.size w w' := by
 (have HR0 := A0_ hr0); (have HC0 := A0_ hc0); clear hr0 hc0; (have HB := A0_ (Below.refl w.heap.size w)); (have H : (if 0 ≤ (l0.length : Int) then (if ((l0.length : Int) : Int).toNat ≤ 35184372088832 then (laws_toInt64S.l0 k l0 (List.replicate ((l0.length : Int) : Int).toNat 0) 0) else (none)) else (none)) = some r := h); clear h; (by_cases c2 : 0 ≤ (l0.length : Int))
 ·(rw [if_pos c2] at H); (have c2b0 := eq_true c2); (have c2b1 : decide (0 ≤ (l0.length : Int)) = true := decide_eq_true c2); clear c2; (by_cases c3 : ((l0.length : Int) : Int).toNat ≤ 35184372088832)
  ·(rw [if_pos c3] at H); (have c3b0 := eq_true c3); (have c3b1 : decide (((l0.length : Int) : Int).toNat ≤ 35184372088832) = true := decide_eq_true c3); clear c3; (obtain ⟨y174, hy174⟩ : ∃ y_ : List Int, y_ = (List.replicate ((l0.length : Int) : Int).toNat 0) := ⟨_, rfl⟩); (replace H : (laws_toInt64S.l0 k l0 y174 0) = some r := by first | (rw [hy174]; with_reducible exact H) | (have H2_ := (Option.bind_some _ _).symm.trans H; rw [hy174]; with_reducible exact H2_) | (have H2_ := (Option.bind_some _ _).symm.trans H; with_reducible exact H2_) | with_reducible exact H | (rw [hy174]; exact H) | exact H); (have Ny174 := A0_ hy174); clear hy174; (have H' := A0_ H); clear H; (go_enter Tryd.func72, Tryd.ntmps72)
   go_wp2_with (first | ((with_reducible refine gate_dst (N := 7) rfl ?_); refine Kd.R_make (Kd.int .i64) _ 2 rfl (N := 7) rfl 32 _ _ rfl (l0.length : Int) rfl rfl Tryd.underlying32 (.int .i64 0) 8 info2 rfl (by decide) (by omega) 0 (ok := fun _ => True) (okp := fun _ => True) rfl (fun _ hk => hk) trivial (of_decide_eq_true (by first | (with_reducible assumption) | assumption)) (Nat.le_trans (Nat.mul_le_mul_right _ (of_decide_eq_true (by first | (with_reducible assumption) | assumption) : (l0.length : Int).toNat ≤ 35184372088832)) (by omega)) (Below.refl _ _) (Nat.le_refl _) ?_; intro v175 w4 ho5 hb hg_ hnew_; clear hg_ hnew_; (first | rw [← Ny174.out] at ho5 | (simp only [Int.reduceToNat] at ho5; rw [← Ny174.out] at ho5)); have n0_ := A0_ (Kd.R_lower ho5 (below_size (by repeat (first | (with_reducible first | exact HB.out | apply ba_ | apply bn_ | apply bd_) | exact HB.out)))); have n1_ := A0_ (below_step (by repeat (first | (with_reducible first | exact HB.out | apply ba_ | apply bn_ | apply bd_) | exact HB.out)) hb); clear HB; have HO176 := n0_; have HB := n1_; clear n0_ n1_; clear hb ho5))
   go_loopg [4] k (fun kq v4 w' => ∃ (x3_1 : List Int) (x4_1 : Int), v4 = .int .i64 x4_1 ∧ Aside0 (laws_toInt64S.l0 kq l0 x3_1 x4_1 = some r) ∧ Aside0 (kq ≤ k) ∧ Aside0 (Kd.R (Kd.int .i64) 2 w' w.heap.size (fun _ => True) v175 x3_1) ∧ Aside0 (Below w.heap.size w w'))
   case atStart => exact ⟨(y174), (0), (by first | rfl | (simp; done) | (simp [*]; done)), H', ⟨Nat.le_refl _⟩, ⟨by (with_reducible repeat (first | apply Ra_ | apply Rn_ | apply Rd_)); exact HO176.out⟩, ⟨by repeat (first | (with_reducible first | exact HB.out | apply ba_ | apply bn_ | apply bd_) | exact HB.out)⟩⟩
   case round =>
    clear H'; (try clear c2); (try clear c2b0); (try clear c2b1); (try clear p2); (try clear c3); (try clear c3b0); (try clear c3b1); (obtain ⟨x3_1, x4_1, rfl, HA, HK1, HO_3, HB⟩ := hrel)
    cases gk with
    | zero => exact absurd HA.out (by simp [laws_toInt64S.l0])
    | succ k1 =>
     (have H := HA.out); clear HA; (simp only [laws_toInt64S.l0] at H); (by_cases c6 : x4_1 < (l0.length : Int))
     ·(rw [if_pos c6] at H); (have c6b0 : decide (x4_1 < (l0.length : Int)) = true := decide_eq_true c6); clear c6; (by_cases c7 : 0 ≤ x4_1)
      ·(rw [if_pos c7] at H); (have c7b0 : decide (0 ≤ x4_1) = true := decide_eq_true c7); clear c7; (by_cases c8 : x4_1 < (x3_1.length : Int))
       ·(rw [if_pos c8] at H); (have c8b0 : decide (x4_1 < (x3_1.length : Int)) = true := decide_eq_true c8); clear c8; (obtain ⟨y178, hy178⟩ : ∃ y_ : List Int, y_ = (x3_1.set (x4_1 : Int).toNat (rd l0 x4_1)) := ⟨_, rfl⟩); (replace H : (laws_toInt64S.l0 k1 l0 y178 (wrap64 (x4_1 + 1))) = some r := by first | (rw [hy178]; with_reducible exact H) | (have H2_ := (Option.bind_some _ _).symm.trans H; rw [hy178]; with_reducible exact H2_) | (have H2_ := (Option.bind_some _ _).symm.trans H; with_reducible exact H2_) | with_reducible exact H | (rw [hy178]; exact H) | exact H); (have Ny178 := A0_ hy178); clear hy178; (have H' := A0_ H); clear H; (have p177 : 0 ≤ (x4_1 : Int) := of_decide_eq_true (by first | (with_reducible assumption) | assumption)); (have q177 : x4_1 < (l0.length : Int) := of_decide_eq_true (by first | (with_reducible assumption) | assumption)); (obtain ⟨ad177, e177, hx177_0⟩ := Kd.at_int HR0.out x4_1 p177 q177); (cases e177); (replace hx177_0 := (HB.out.cell (World.block_lt_of_cell? w _ hx177_0)).trans hx177_0); (replace p177 := eq_true p177); (replace q177 := eq_true q177); (have p9 : 0 ≤ (x4_1 : Int) := of_decide_eq_true (by first | (with_reducible assumption) | assumption)); (have q9 : (x4_1 : Int) < ((x3_1.length : Int) : Int) := of_decide_eq_true (by first | (with_reducible assumption) | assumption)); (obtain ⟨go9, co9, eo9, gb9, gl9, cl9, HG9⟩ := Kd.R_form HO_3.out (by omega)); ((first | cases eo9 | (injection eo9 with ea_ en_ ec_; (first | subst ea_ | (injection ea_ with ea_; subst ea_)); subst ec_; clear en_))); (have GB9 := A0_ gb9); (have GG9 := A0_ HG9); clear gb9 gl9 HG9; (obtain ⟨hx9_0, hf9_0⟩ := Kd.R_celln 0 HO_3.out (x4_1 : Int) p9 q9); (replace p9 := eq_true p9); (replace q9 := eq_true q9); (have HP10 := Kd.R_putg HO_3.out (x4_1 : Int) (rd l0 x4_1))
        go_wp2_with (first | ((with_reducible refine gate_store (t := 2) (p := 20) rfl ?_); refine store_event (t := 2) (p := 20) (v := ?vo_w11) (w1 := (wr.setCell ⟨go9, (x4_1 : Int).toNat, none⟩ (.int .i64 (rd l0 x4_1)))) ?hg ?ho ?hn ?hr ?_; (case ho => rfl); (case hg => rfl); (case hn => rfl); (case hr => first | (go_simp; done) | (go_simp; rfl)); intro w11 hw; have hg : wr.grownBy w11 (some go9) := (by rw [hw]; exact HP10.2); have hp_ : Kd.R (Kd.int .i64) 2 w11 w.heap.size (fun _ => True) (.slice (some ⟨go9, 0, none⟩) x3_1.length co9) y178 := (by rw [hw, Ny178.out]; exact HP10.1); clear HP10; have n0_ := A0_ (hp_); have n1_ := A0_ ((by rw [hw]; exact below_set (HB.out) GB9.out : Below w.heap.size w w11)); clear HO_3; clear HB; have HO_3 := n0_; have HB := n1_; clear n0_ n1_; clear hg hw hp_))
        (go_roundg k1)
        case measure => have := HK1.out; omega
        case rel => exact ⟨(y178), (wrap64 (x4_1 + 1)), (by first | rfl | (simp; done) | (simp [*]; done)), H', ⟨by have := HK1.out; omega⟩, ⟨by (with_reducible repeat (first | apply Ra_ | apply Rn_ | apply Rd_)); exact HO_3.out⟩, ⟨by repeat (first | (with_reducible first | exact HB.out | apply ba_ | apply bn_ | apply bd_) | exact HB.out)⟩⟩
       ·(rw [if_neg c8] at H); (exact absurd H (by simp))
      ·(rw [if_neg c7] at H); (exact absurd H (by simp))
     ·(rw [if_neg c6] at H); (have c6b0 : decide (x4_1 < (l0.length : Int)) = false := decide_eq_false c6); clear c6; (obtain rfl := Option.some.inj H); go_wp2; go_ret; (exact ⟨_, by first | rfl | (simp [errW_none, errW_some] <;> rfl) | (simp [*, errW_none, errW_some] <;> rfl), by (with_reducible repeat (first | apply Ra_ | apply Rn_ | apply Rd_)); exact HO_3.out, by repeat (first | (with_reducible first | exact HB.out | apply ba_ | apply bn_ | apply bd_) | exact HB.out)⟩)
  ·(rw [if_neg c3] at H); (exact absurd H (by simp))
 ·(rw [if_neg c2] at H); (exact absurd H (by simp))
end Go.Proofs.YtoglcgnbkibpgaaDoor.A

