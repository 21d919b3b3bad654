/- What the row of the law FnExactAllCovers stands on, part 2. -/
import Derived.Test.YtoglcgnbkibpgaaDoorMFnExactAllCovers1
/- The reference's search for covers, walked: it comes to what its plain twin comes to. -/
namespace Go.Proofs.YtoglcgnbkibpgaaDoor.A
open Go.RowKit Go.Proofs.YtoglcgnbkibpgaaDoorW.PrintWords Go.Proofs.YtoglcgnbkibpgaaDoorW.PrintLast Go.Proofs.YtoglcgnbkibpgaaDoorW.PrintMore Go.Proofs.YtoglcgnbkibpgaaDoorW.Cov Go.Proofs.YtoglcgnbkibpgaaDoorW.Tree
set_option linter.unusedVariables false
set_option linter.unusedSimpArgs false
abbrev kI : Kd Int := Kd.int .i64
abbrev kL : Kd (List Int) := Kd.slice 2 (Kd.int .i64)
def spec_l14Visit.T5 : Bool × List (List Nat × List Nat) := (true, [([], []), ([], []), ([1], [1]), ([2], [2]), ([3], [3]), ([], []), ([5], [5]), ([6], [6]), ([4, 7, 6], [4, 7]), ([0, 0, 1, 2, 3, 4, 5, 6, 7, 8], [0]), ([9, 0, 1, 2, 3, 4, 5, 6, 7, 8], [9]), ([10, 8, 8, 0, 1, 2, 3, 4, 5, 6, 7, 8], [8, 10])])
def spec_l14Visit.B5 : List Nat := [0, 0, 2, 6, 14, 0, 32, 96, 254, 511, 1023, 2047]
theorem spec_l14Visit.tab5 : rtab .any (opsOf Tryd.f75 5) = spec_l14Visit.T5 := by kernel_rfl
theorem spec_l14Visit.bits5 : waitsOk spec_l14Visit.T5.2 spec_l14Visit.B5 = true := by kernel_rfl
def spec_l14Visit.T6 : Bool × List (List Nat × List Nat) := (true, [([], []), ([0], [0]), ([1], [1]), ([2], [2]), ([], []), ([4], [4]), ([5], [5]), ([6], [6]), ([], []), ([7, 8], [7, 8]), ([], []), ([3, 9, 10, 9], [3, 9, 10]), ([11, 11, 0, 1, 2, 3, 4, 5, 6, 7, 8, 9, 10, 11], [11])])
def spec_l14Visit.B6 : List Nat := [0, 1, 3, 7, 0, 16, 48, 112, 0, 496, 0, 2047, 4095]
theorem spec_l14Visit.tab6 : rtab .any (opsOf Tryd.f75 6) = spec_l14Visit.T6 := by kernel_rfl
theorem spec_l14Visit.bits6 : waitsOk spec_l14Visit.T6.2 spec_l14Visit.B6 = true := by kernel_rfl
def spec_l14Visit.T10 : Bool × List (List Nat × List Nat) := (true, [([], []), ([], []), ([1], [1]), ([], []), ([], []), ([3, 4], [3, 4]), ([5], [5]), ([6], [6]), ([2, 7, 2], [2, 7]), ([0, 8, 8], [0, 8])])
def spec_l14Visit.B10 : List Nat := [0, 0, 2, 0, 0, 24, 56, 120, 254, 511]
theorem spec_l14Visit.tab10 : rtab .any (opsOf Tryd.f75 10) = spec_l14Visit.T10 := by kernel_rfl
theorem spec_l14Visit.bits10 : waitsOk spec_l14Visit.T10.2 spec_l14Visit.B10 = true := by kernel_rfl
theorem at_int_ {w : World} {ad : Addr} {n : Nat} {xs : List Int} {x : Int} (h : kI.C w (some ad) n xs) {i : Int} (h0 : 0 ≤ i) (h1 : i < n) (hx : rd xs i = x) : w.cell? (ad.add i.toNat) = some (.int .i64 x) := by
 (obtain ⟨ad', e, hc⟩ := Kd.at_int h i h0 h1); (injection e with e); subst e; (rw [← hx]); (exact hc)
theorem own_eq (seq : List Int) (h : seq.length ≤ 1048576) : spec_l01Own.f seq = some seq := by
 (unfold spec_l01Own.f); (simp); omega
set_option maxHeartbeats 4000000 in
set_option maxRecDepth 100000 in
theorem spec_l14Visit.calls' {C Q : Int} {rows : List (List Int)} (h : CovOk C Q rows) (limit most : Int) (hlim : 0 ≤ limit ∧ limit ≤ 20000) (w0 : World) (A : Option Addr) (cA : Nat) (hR : Kd.C kL w0 A rows.length rows) (hcA : rows.length ≤ cA) (g : Nat) (d : Nat) :
    ∀ (seq : List Int) (s : VS (List Int)) (w : World) (rest : List Res) (Aq : Option Addr) (cq : Nat) (A4 : Option Addr) (c4 : Nat), NodeOk rows Q.toNat d seq → okV limit s → s.over = false →
      Sp w0 ([Res.blk g #[.int .i64 C, .int .i64 Q, .slice A rows.length cA, .int .i64 limit, .int .i64 (s.steps), .slice A4 (s.found).length c4, .int .i64 most, .bool false] 55, Res.row kL 32 w0.heap.size (.slice A4 (s.found).length c4) (s.found), Res.row kI 2 w0.heap.size (.slice Aq seq.length cq) seq] ++ rest) w →
      Calls Tryd.prog 75 #[.pointer (some ⟨g, 0, none⟩), .slice Aq seq.length cq] w fun e w' => e = .returned (.tuple #[]) ∧ ∃ A4' c4', Sp w0 ([Res.blk g #[.int .i64 C, .int .i64 Q, .slice A rows.length cA, .int .i64 limit, .int .i64 ((visitG (leafC rows Q.toNat) (kidsC rows Q.toNat) limit most d seq s).steps), .slice A4' ((visitG (leafC rows Q.toNat) (kidsC rows Q.toNat) limit most d seq s).found).length c4', .int .i64 most, .bool (visitG (leafC rows Q.toNat) (kidsC rows Q.toNat) limit most d seq s).over] 55, Res.row kL 32 w0.heap.size (.slice A4' ((visitG (leafC rows Q.toNat) (kidsC rows Q.toNat) limit most d seq s).found).length c4') ((visitG (leafC rows Q.toNat) (kidsC rows Q.toNat) limit most d seq s).found), Res.row kI 2 w0.heap.size (.slice Aq seq.length cq) seq] ++ rest) w' := by
 induction d using Nat.strongRecOn with
 | _ d ih0 =>
 intro seq s w rest Aq cq A4 c4 hnd hok hov hsp; (have HS := A0_ hsp); (have HND := A0_ hnd); (have HOK := A0_ hok); (have HL := A0_ (show s.found.length ≤ 20001 by have := hok.2.1; have := hok.2.2.1; omega)); (have HOWN := A0_ (own_eq seq (by have := hnd.len; omega))); (have HST := A0_ (show 0 ≤ s.steps ∧ s.steps ≤ 20000 by have := hok.1; have := hok.2.2.2 hov; omega)); clear hsp hok; (have hw : wrap64 (s.steps + 1) = s.steps + 1 := by have := HST.out; unfold wrap64; omega); (have hg := (Sp.blk HS.out (i := 0) rfl).1); (have hy0 := (blk_cell hg 0).trans rfl); (have hy1 := (blk_cell hg 1).trans rfl); (have hy2 := (blk_cell hg 2).trans rfl); (have hy3 := (blk_cell hg 3).trans rfl); (have hy4 := (blk_cell hg 4).trans rfl); (have hy5 := (blk_cell hg 5).trans rfl); (have hy7 := (blk_cell hg 7).trans rfl); (have hz4 := blk_frozen hg 4); (have hz7 := blk_frozen hg 7); (have HS1 := A0_ (Sp.set HS.out 0 rfl 4 (.int .i64 (s.steps + 1)) (by simpa using blk_set (Sp.blk HS.out (i := 0) rfl).1 4 (.int .i64 (s.steps + 1))))); (by_cases c : s.steps + 1 > limit)
 ·(have cb : decide (limit < s.steps + 1) = true := decide_eq_true c); (rw [visit_lim rows Q.toNat limit most seq s d c]); clear ih0; (go_enter Tryd.func75, Tryd.ntmps75); go_wp2; (repeat (go_quiet (fail); try go_wp2)); (first | go_end0 | ((try simp only [Exit.inBlock, Exit.then]); refine bodyPost_ret (results_none rfl _ _ _) rfl ?_)); (exact ⟨rfl, A4, c4, Sp.set (Sp.drewN HS1.out nq) 0 rfl 7 (.bool true) (by simpa using blk_set (Sp.blk (Sp.drewN HS1.out nq) (i := 0) rfl).1 7 (.bool true))⟩)
 ·(have cb : decide (limit < s.steps + 1) = false := decide_eq_false c); (obtain ⟨kc, hcol⟩ := (column_ev h seq (by have := hnd.len; omega) hnd.idx).rounds); (by_cases cl : colV rows Q.toNat seq < 0)
  ·(rw [visit_leaf rows Q.toNat limit most seq s d c cl, hov]); (have HCOL := A0_ hcol); (have clb : decide (colV rows Q.toNat seq < 0) = true := decide_eq_true cl); clear ih0 hcol cl; (go_enter Tryd.func75, Tryd.ntmps75); go_wp2; (go_quiet (fail)); (have HS_ := A0_ (Sp.drewN HS1.out nq)); clear HS HS1; (have HS := HS_); clear HS_; (go_wp2_with (first | (go_at_call 70; refine (spec_l14Column.calls kc C Q A cA rows Aq cq seq _ _ (Kd.C_below hR HS.out.below) hcA (Sp.reads HS.out (i := 2) rfl).2.2 (Sp.reads HS.out (i := 2) rfl).2.1 HCOL.out).mono ?_; rintro e w1 ⟨rfl, hb⟩; have HS_ := A0_ (Sp.far HS.out hb); clear HS hb; have HS := HS_; clear HS_))); (have HS_ := A0_ (Sp.drew HS.out)); clear HS; (have HS := HS_); clear HS_
   refine start_ (n := 12) (S := fun w' => w'.cell? ⟨g, 5, none⟩ = some (.slice A4 s.found.length c4)) (ds := [11]) #[ff,ff,ff,ff,ff,ff,ff,ff,ff,ff,ff,ff] (by kernel_rfl) rfl rfl ((blk_cell (Sp.blk HS.out (i := 0) rfl).1 5).trans rfl) (fun hHeld => ?_)
   refine with_tabW spec_l14Visit.tab5 spec_l14Visit.bits5 (fun HT_ HW_ => ?_)
   (generalize w1.drew = wD at HS hHeld ⊢)
   refine pure_ (i := 0) (N := some 34) (v := ?_) (a' := ?_) #[tt,ff,ff,ff,ff,ff,ff,ff,ff,ff,ff,ff] rfl rfl (any_of HT_.out (by kernel_rfl)) (fun _ _ _ h => h) (Or.inl ⟨by rfl, ?_⟩) ?_ ?_
   rotate_left
   ·intro w'; go_simp; with_reducible rfl
   rotate_left
   ·(simp only [Act.put, sia_, sz_, ss_, i64_w, i32_w]); rfl
   refine pure_ (i := 1) (N := some 35) (v := ?_) (a' := ?_) #[tt,tt,ff,ff,ff,ff,ff,ff,ff,ff,ff,ff] rfl rfl (any_of HT_.out (by kernel_rfl)) (fun _ _ _ h => h) (Or.inl ⟨by rfl, ?_⟩) ?_ ?_
   rotate_left
   ·intro w'; go_simp; with_reducible rfl
   rotate_left
   ·(simp only [Act.put, sia_, sz_, ss_, i64_w, i32_w]); rfl
   refine pure_ (i := 2) (N := some 36) (v := ?_) (a' := ?_) #[tt,tt,tt,ff,ff,ff,ff,ff,ff,ff,ff,ff] rfl rfl (any_of HT_.out (by kernel_rfl)) (fun _ _ _ h => h) (Or.inl ⟨by rfl, ?_⟩) ?_ ?_
   rotate_left
   ·intro w'; go_simp; with_reducible rfl
   rotate_left
   ·(simp only [Act.put, sia_, sz_, ss_, i64_w, i32_w]); rfl
   refine pure_ (i := 3) (N := some 37) (v := ?_) (a' := ?_) #[tt,tt,tt,tt,ff,ff,ff,ff,ff,ff,ff,ff] rfl rfl (any_of HT_.out (by kernel_rfl)) (fun _ _ _ h => h) (Or.inl ⟨by rfl, ?_⟩) ?_ ?_
   rotate_left
   ·intro w'; go_simp; with_reducible rfl
   rotate_left
   ·(simp only [Act.put, sia_, sz_, ss_, i64_w, i32_w]); rfl
   refine take_ (i := 4) (N := some 38) (v := ?_) (a' := ?_) #[tt,tt,tt,tt,tt,ff,ff,ff,ff,ff,ff,ff] rfl rfl (take_ofW HT_.out HW_.out (by kernel_rfl)) (fun _ _ _ h => h) (Or.inl ⟨by rfl, ?_⟩) hHeld ?_ ?_
   rotate_left
   ·(rintro w' s0); go_simp; with_reducible rfl
   rotate_left
   ·(simp only [Act.put, sia_, sz_, ss_, i64_w, i32_w]); rfl
   refine pure_ (i := 5) (N := some 39) (v := ?_) (a' := ?_) #[tt,tt,tt,tt,tt,tt,ff,ff,ff,ff,ff,ff] rfl rfl (any_of HT_.out (by kernel_rfl)) (fun _ _ _ h => h) (Or.inl ⟨by rfl, ?_⟩) ?_ ?_
   rotate_left
   ·intro w'; go_simp; with_reducible rfl
   rotate_left
   ·(simp only [Act.put, sia_, sz_, ss_, i64_w, i32_w]); rfl
   refine one_ (i := 6) (N := some 40) #[tt,tt,tt,tt,tt,tt,tt,ff,ff,ff,ff,ff] rfl rfl (one_of HT_.out (by kernel_rfl)) (by decide) (fun K hK => ?_)
   (refine goes_ Tryd.func87 (by kernel_rfl) rfl #[.slice Aq seq.length cq] (by rfl) rfl rfl (by (try simp only [List.map_toArray, List.map_cons, List.map_nil]); first | done | rfl | (simp only [List.length_drop, List.length_take]; rfl)) ?_); (refine (spec_l01Own.calls Aq cq seq seq _ (Sp.reads HS.out (i := 2) rfl).2.2 (Sp.reads HS.out (i := 2) rfl).2.1 HOWN.out).mono ?_); (rintro e wA11 ⟨vA11, rfl, ho, hb⟩); (refine ⟨_, rfl, ?_⟩); (have HS_ := A0_ (Sp.made' HS.out hb ho)); clear HS; (have HS := HS_); clear HS_; clear hb ho; (obtain ⟨AA11, cA11, rfl⟩ := Sp.slice HS.out (i := 0) rfl)
   refine hK.out _ _ ((blk_cell (Sp.blk HS.out (i := 1) rfl).1 5).trans rfl) (fun hHeld => ?_)
   clear hK K; (refine norm_ (a' := ?_) ?_ ?_); rotate_left
   ·(show Act.put _ (some 40) _ = _); (simp only [Act.put, sia_, sz_, ss_, i64_w, i32_w]); rfl
   refine one_ (i := 7) (N := some 41) #[tt,tt,tt,tt,tt,tt,tt,tt,ff,ff,ff,ff] rfl rfl (one_of HT_.out (by kernel_rfl)) (by decide) (fun K hK => ?_)
   (refine event_step (v := .slice (some ⟨wA11.heap.size, 0, none⟩) 1 1) (w1 := wA11.alloc (.cells #[.slice AA11 seq.length cA11] 32)) (by rfl) ?_ ?_)
   ·(first | (go_simp; done) | (go_simp; rfl))
   refine hK.out _ _ ((blk_cell (blk_alloc (Sp.blk HS.out (i := 1) rfl).1 _) 5).trans rfl) (fun hHeld => ?_)
   clear hK K; (refine norm_ (a' := ?_) ?_ ?_); rotate_left
   ·(show Act.put _ (some 41) _ = _); (simp only [Act.put, sia_, sz_, ss_, i64_w, i32_w]); rfl
   refine one_ (i := 8) (N := some 42) #[tt,tt,tt,tt,tt,tt,tt,tt,tt,ff,ff,ff] rfl rfl (one_of HT_.out (by kernel_rfl)) (by decide) (fun K hK => ?_)
   (obtain ⟨fp_, gp_, ho_, hp_, hne_, hf_, hgf_, hc_⟩ := Sp.row2 HS.out (i := 2) (j := 0) (by decide) rfl rfl)
   refine Kd.R_append_step kL (w0 := wA11) (W := wA11) w0.heap.size (by rfl) (.tmp 38) (.tmp 41) 22 32 (.slice none 0 0) 24 rfl Tryd.underlying22 info32 rfl (by decide) (by omega) (.slice A4 s.found.length c4) s.found seq [.slice AA11 seq.length cA11] (fun k => fp_ k ∨ gp_ k ∨ wA11.heap.size ≤ k) gp_ rfl rfl ?aP ?aK ?aF ?aO (Below.refl _ _) ?aS ?aL ?_
   ((case aP => exact ⟨_, rfl, hp_⟩))
   (case aK => exact fun k hk => ⟨.inr (.inl hk), hne_ k hk⟩)
   (case aF => exact fun k hk => .inr (.inr hk))
   ((case aO => exact ho_)); ((case aS => exact HS.out.below.size)); ((case aL => have := HL.out; omega)); intro vA90 wA90 ho hb hg hat; (have HS_ := A0_ (hc_ _ _ _ ho hg)); clear HS; (have HS := HS_); clear HS_; clear ho hb hg hat ho_ hp_ hne_ hf_ hgf_ hc_ fp_ gp_; (obtain ⟨AA90, cA90, eA_⟩ := Sp.slice HS.out (i := 1) rfl); subst eA_
   refine hK.out _ _ ((blk_cell (Sp.blk HS.out (i := 0) rfl).1 5).trans rfl) (fun hHeld => ?_)
   clear hK K; (refine norm_ (a' := ?_) ?_ ?_); rotate_left
   ·(show Act.put _ (some 42) _ = _); (simp only [Act.put, sia_, sz_, ss_, i64_w, i32_w]); rfl
   refine pure_ (i := 9) (N := some 43) (v := ?_) (a' := ?_) #[tt,tt,tt,tt,tt,tt,tt,tt,tt,tt,ff,ff] rfl rfl (any_of HT_.out (by kernel_rfl)) (fun _ _ _ h => h) (Or.inl ⟨by rfl, ?_⟩) ?_ ?_
   rotate_left
   ·intro w'; go_simp; with_reducible rfl
   rotate_left
   ·(simp only [Act.put, sia_, sz_, ss_, i64_w, i32_w]); rfl
   refine pure_ (i := 10) (N := some 44) (v := ?_) (a' := ?_) #[tt,tt,tt,tt,tt,tt,tt,tt,tt,tt,tt,ff] rfl rfl (any_of HT_.out (by kernel_rfl)) (fun _ _ _ h => h) (Or.inl ⟨by rfl, ?_⟩) ?_ ?_
   rotate_left
   ·intro w'; go_simp; with_reducible rfl
   rotate_left
   ·(simp only [Act.put, sia_, sz_, ss_, i64_w, i32_w]); rfl
   refine last_ (i := 11) (N := none) #[tt,tt,tt,tt,tt,tt,tt,tt,tt,tt,tt,tt] rfl rfl (one_of HT_.out (by kernel_rfl)) (by decide) (fun K hK => ?_)
   (have hz_ := blk_frozen (Sp.blk HS.out (i := 0) rfl).1 5); (have hy_ : wA90.cell? ⟨g, 5, none⟩ = some (.slice A4 s.found.length c4) := (blk_cell (Sp.blk HS.out (i := 0) rfl).1 5).trans rfl); (refine skip_ (w1 := wA90.setCell ⟨g, 5, none⟩ (.slice AA90 (s.found ++ [seq]).length cA90)) (by rfl) rfl (by first | (go_simp; done) | (go_simp; rfl)) ?_); (have HS_ := A0_ (Sp.set HS.out 0 rfl 5 (.slice AA90 (s.found ++ [seq]).length cA90) (blk_put (cs' := #[.int .i64 C, .int .i64 Q, .slice A rows.length cA, .int .i64 limit, .int .i64 (s.steps + 1), .slice AA90 (s.found ++ [seq]).length cA90, .int .i64 most, .bool false]) (Sp.blk HS.out (i := 0) rfl).1 5 _ rfl))); clear HS; (have HS := HS_); clear HS_; clear hz_ hy_; (refine hK.out _ _ ?_); clear hK K; (refine done_ (done_of HT_.out (by kernel_rfl)) ?_); (try go_wp2); (first | go_end0 | ((try simp only [Exit.inBlock, Exit.then]); refine bodyPost_ret (results_none rfl _ _ _) rfl ?_)); (exact ⟨rfl, _, _, HS.out⟩)
  ·(have h1 : 1 ≤ d := by have := uncov_pos (show 0 ≤ colV rows Q.toNat seq by omega); have := hnd.dep; omega); (obtain ⟨d, rfl⟩ : ∃ d', d = d' + 1 := ⟨d - 1, by omega⟩); (rw [visit_kids rows Q.toNat limit most seq s d c (by omega), hov]); (have HC0 := A0_ (show 0 ≤ colV rows Q.toNat seq by omega)); (obtain ⟨L, hL⟩ : ∃ L, L = openRows rows seq (colV rows Q.toNat seq) := ⟨_, rfl⟩); (rw [← hL])
   obtain ⟨R, hRe⟩ : ∃ R, R = foldV most (visitG (leafC rows Q.toNat) (kidsC rows Q.toNat) limit most d) (L.map fun j => seq ++ [j]) ⟨s.steps + 1, s.found, false⟩ := ⟨_, rfl⟩
   (rw [← hRe])
   have HR0 := A0_ (show foldV most (visitG (leafC rows Q.toNat) (kidsC rows Q.toNat) limit most d) ((L.drop (0 : Int).toNat).map fun j => seq ++ [j]) ⟨s.steps + 1, s.found, false⟩ = R from hRe.symm)
   have HOK1 := A0_ (show okV limit (⟨s.steps + 1, s.found, false⟩ : VS (List Int)) from by obtain ⟨k1, k2, k3, k4⟩ := HOK.out; exact ⟨by dsimp only; omega, by dsimp only; omega, by dsimp only; omega, fun _ => by dsimp only; omega⟩)
   (have HLL := A0_ (show L.length ≤ 400 by rw [hL]; have := openRows_len rows seq (colV rows Q.toNat seq); have := h.n400; omega)); (have IH := A0_ (ih0 d (by omega))); (obtain ⟨kn, hkn⟩ := (Ev.and' (counts_ev h seq (by have := hnd.len; omega) hnd.idx) (open_ev h seq (colV rows Q.toNat seq)))); (obtain ⟨hcnt, hopn⟩ := hkn); (rw [← hL] at hopn); (have HLC := A0_ hL); (obtain ⟨col, hcl⟩ : ∃ col, col = colV rows Q.toNat seq := ⟨_, rfl⟩); (rw [← hcl] at hopn hcol); (have HCOL := A0_ hcol); (have HCNT := A0_ hcnt); (have HOPN := A0_ hopn); (have clb : decide (col < 0) = false := decide_eq_false (by rw [hcl]; exact cl)); (have HCL := A0_ hcl); clear ih0 hcol hcnt hopn cl hL hRe hcl HOK h1; (go_enter Tryd.func75, Tryd.ntmps75); go_wp2; (go_quiet (fail)); (have HS_ := A0_ (Sp.drewN HS1.out nq)); clear HS HS1; (have HS := HS_); clear HS_; (go_wp2_with (first | (go_at_call 70; refine (spec_l14Column.calls kc C Q A cA rows Aq cq seq _ _ (Kd.C_below hR HS.out.below) hcA (Sp.reads HS.out (i := 2) rfl).2.2 (Sp.reads HS.out (i := 2) rfl).2.1 HCOL.out).mono ?_; rintro e w1 ⟨rfl, hb⟩; have HS_ := A0_ (Sp.far HS.out hb); clear HS hb; have HS := HS_; clear HS_))); (have HS_ := A0_ (Sp.drew HS.out)); clear HS; (have HS := HS_); clear HS_
   refine start_ (n := 13) (S := fun w' => w'.cell? ⟨g, 0, none⟩ = some (.int .i64 C) ∧ w'.cell? ⟨g, 1, none⟩ = some (.int .i64 Q) ∧ w'.cell? ⟨g, 2, none⟩ = some (.slice A rows.length cA)) (ds := [11]) #[ff,ff,ff,ff,ff,ff,ff,ff,ff,ff,ff,ff,ff] (by kernel_rfl) rfl rfl (⟨(blk_cell (Sp.blk HS.out (i := 0) rfl).1 0).trans rfl, (blk_cell (Sp.blk HS.out (i := 0) rfl).1 1).trans rfl, (blk_cell (Sp.blk HS.out (i := 0) rfl).1 2).trans rfl⟩) (fun hHeld => ?_)
   refine with_tabW spec_l14Visit.tab6 spec_l14Visit.bits6 (fun HT_ HW_ => ?_)
   (generalize w1.drew = wD at HS hHeld ⊢)
   refine pure_ (i := 0) (N := some 45) (v := ?_) (a' := ?_) #[tt,ff,ff,ff,ff,ff,ff,ff,ff,ff,ff,ff,ff] rfl rfl (any_of HT_.out (by kernel_rfl)) (fun _ _ _ h => h) (Or.inl ⟨by rfl, ?_⟩) ?_ ?_
   rotate_left
   ·intro w'; go_simp; with_reducible rfl
   rotate_left
   ·(simp only [Act.put, sia_, sz_, ss_, i64_w, i32_w]); rfl
   refine pure_ (i := 1) (N := some 46) (v := ?_) (a' := ?_) #[tt,tt,ff,ff,ff,ff,ff,ff,ff,ff,ff,ff,ff] rfl rfl (any_of HT_.out (by kernel_rfl)) (fun _ _ _ h => h) (Or.inl ⟨by rfl, ?_⟩) ?_ ?_
   rotate_left
   ·intro w'; go_simp; with_reducible rfl
   rotate_left
   ·(simp only [Act.put, sia_, sz_, ss_, i64_w, i32_w]); rfl
   refine pure_ (i := 2) (N := some 47) (v := ?_) (a' := ?_) #[tt,tt,tt,ff,ff,ff,ff,ff,ff,ff,ff,ff,ff] rfl rfl (any_of HT_.out (by kernel_rfl)) (fun _ _ _ h => h) (Or.inl ⟨by rfl, ?_⟩) ?_ ?_
   rotate_left
   ·intro w'; go_simp; with_reducible rfl
   rotate_left
   ·(simp only [Act.put, sia_, sz_, ss_, i64_w, i32_w]); rfl
   refine take_ (i := 3) (N := some 48) (v := ?_) (a' := ?_) #[tt,tt,tt,tt,ff,ff,ff,ff,ff,ff,ff,ff,ff] rfl rfl (take_ofW HT_.out HW_.out (by kernel_rfl)) (fun _ _ _ h => h) (Or.inl ⟨by rfl, ?_⟩) hHeld ?_ ?_
   rotate_left
   ·(rintro w' ⟨s0, s1, s2⟩); go_simp; with_reducible rfl
   rotate_left
   ·(simp only [Act.put, sia_, sz_, ss_, i64_w, i32_w]); rfl
   refine pure_ (i := 4) (N := some 49) (v := ?_) (a' := ?_) #[tt,tt,tt,tt,tt,ff,ff,ff,ff,ff,ff,ff,ff] rfl rfl (any_of HT_.out (by kernel_rfl)) (fun _ _ _ h => h) (Or.inl ⟨by rfl, ?_⟩) ?_ ?_
   rotate_left
   ·intro w'; go_simp; with_reducible rfl
   rotate_left
   ·(simp only [Act.put, sia_, sz_, ss_, i64_w, i32_w]); rfl
   refine pure_ (i := 5) (N := some 50) (v := ?_) (a' := ?_) #[tt,tt,tt,tt,tt,tt,ff,ff,ff,ff,ff,ff,ff] rfl rfl (any_of HT_.out (by kernel_rfl)) (fun _ _ _ h => h) (Or.inl ⟨by rfl, ?_⟩) ?_ ?_
   rotate_left
   ·intro w'; go_simp; with_reducible rfl
   rotate_left
   ·(simp only [Act.put, sia_, sz_, ss_, i64_w, i32_w]); rfl
   refine pure_ (i := 6) (N := some 51) (v := ?_) (a' := ?_) #[tt,tt,tt,tt,tt,tt,tt,ff,ff,ff,ff,ff,ff] rfl rfl (any_of HT_.out (by kernel_rfl)) (fun _ _ _ h => h) (Or.inl ⟨by rfl, ?_⟩) ?_ ?_
   rotate_left
   ·intro w'; go_simp; with_reducible rfl
   rotate_left
   ·(simp only [Act.put, sia_, sz_, ss_, i64_w, i32_w]); rfl
   refine take_ (i := 7) (N := some 52) (v := ?_) (a' := ?_) #[tt,tt,tt,tt,tt,tt,tt,tt,ff,ff,ff,ff,ff] rfl rfl (take_ofW HT_.out HW_.out (by kernel_rfl)) (fun _ _ _ h => h) (Or.inl ⟨by rfl, ?_⟩) hHeld ?_ ?_
   rotate_left
   ·(rintro w' ⟨s0, s1, s2⟩); go_simp; with_reducible rfl
   rotate_left
   ·(simp only [Act.put, sia_, sz_, ss_, i64_w, i32_w]); rfl
   refine pure_ (i := 8) (N := some 53) (v := ?_) (a' := ?_) #[tt,tt,tt,tt,tt,tt,tt,tt,tt,ff,ff,ff,ff] rfl rfl (any_of HT_.out (by kernel_rfl)) (fun _ _ _ h => h) (Or.inl ⟨by rfl, ?_⟩) ?_ ?_
   rotate_left
   ·intro w'; go_simp; with_reducible rfl
   rotate_left
   ·(simp only [Act.put, sia_, sz_, ss_, i64_w, i32_w]); rfl
   refine pure_ (i := 10) (N := some 55) (v := ?_) (a' := ?_) #[tt,tt,tt,tt,tt,tt,tt,tt,tt,ff,tt,ff,ff] rfl rfl (any_of HT_.out (by kernel_rfl)) (fun _ _ _ h => h) (Or.inl ⟨by rfl, ?_⟩) ?_ ?_
   rotate_left
   ·intro w'; go_simp; with_reducible rfl
   rotate_left
   ·(simp only [Act.put, sia_, sz_, ss_, i64_w, i32_w]); rfl
   refine one_ (i := 9) (N := some 54) #[tt,tt,tt,tt,tt,tt,tt,tt,tt,tt,tt,ff,ff] rfl rfl (one_of HT_.out (by kernel_rfl)) (by decide) (fun K hK => ?_)
   (refine goes_ Tryd.func85 (by kernel_rfl) rfl #[.agg #[.int .i64 C, .int .i64 Q, .slice A rows.length cA], .slice Aq seq.length cq] (by rfl) rfl rfl (by (try simp only [List.map_toArray, List.map_cons, List.map_nil]); first | done | rfl | (simp only [List.length_drop, List.length_take]; rfl)) ?_); (refine (spec_l13Counts.calls kn C Q A cA rows Aq cq seq _ _ (Kd.C_below hR HS.out.below) hcA (Sp.reads HS.out (i := 2) rfl).2.2 (Sp.reads HS.out (i := 2) rfl).2.1 HCNT.out).mono ?_); (rintro e wA21 ⟨vA21, rfl, ho, hb⟩); (refine ⟨_, rfl, ?_⟩); (have HS_ := A0_ (Sp.made' HS.out hb ho)); clear HS; (have HS := HS_); clear HS_; clear hb ho; (obtain ⟨AA21, cA21, rfl⟩ := Sp.slice HS.out (i := 0) rfl)
   refine hK.out _ _ (⟨(blk_cell (Sp.blk HS.out (i := 1) rfl).1 0).trans rfl, (blk_cell (Sp.blk HS.out (i := 1) rfl).1 1).trans rfl, (blk_cell (Sp.blk HS.out (i := 1) rfl).1 2).trans rfl⟩) (fun hHeld => ?_)
   clear hK K; (refine norm_ (a' := ?_) ?_ ?_); rotate_left
   ·(show Act.put _ (some 54) _ = _); (simp only [Act.put, sia_, sz_, ss_, i64_w, i32_w]); rfl
   refine last_ (i := 11) (N := some 56) #[tt,tt,tt,tt,tt,tt,tt,tt,tt,tt,tt,tt,ff] rfl rfl (one_of HT_.out (by kernel_rfl)) (by decide) (fun K hK => ?_)
   (refine goes_ Tryd.func86 (by kernel_rfl) rfl #[.agg #[.int .i64 C, .int .i64 Q, .slice A rows.length cA], .slice AA21 (cntL rows C.toNat seq).length cA21, .int .i64 col] (by rfl) rfl rfl (by (try simp only [List.map_toArray, List.map_cons, List.map_nil]); first | done | rfl | (simp only [List.length_drop, List.length_take]; rfl)) ?_); (refine (spec_l14Open.calls kn C Q A cA rows AA21 cA21 (cntL rows C.toNat seq) col L _ (Kd.C_below hR HS.out.below) hcA (Sp.reads HS.out (i := 0) rfl).2.2 (Sp.reads HS.out (i := 0) rfl).2.1 HOPN.out).mono ?_); (rintro e wA22 ⟨vA22, rfl, ho, hb⟩); (refine ⟨_, rfl, ?_⟩); (have HS_ := A0_ (Sp.made' HS.out hb ho)); clear HS; (have HS := HS_); clear HS_; clear hb ho; (obtain ⟨AA22, cA22, rfl⟩ := Sp.slice HS.out (i := 0) rfl); (refine hK.out _ _ ?_); clear hK K; (refine norm_ (a' := ?_) ?_ ?_); rotate_left
   ·(show Act.put _ (some 56) _ = _); (simp only [Act.put, sia_, sz_, ss_, i64_w, i32_w]); rfl
   refine pure_ (i := 12) (N := some 5) (v := ?_) (a' := ?_) #[tt,tt,tt,tt,tt,tt,tt,tt,tt,tt,tt,tt,tt] rfl rfl (any_of HT_.out (by kernel_rfl)) (fun _ _ _ h => h) (Or.inl ⟨by rfl, ?_⟩) ?_ ?_
   rotate_left
   ·intro w'; go_simp; with_reducible rfl
   rotate_left
   ·(simp only [Act.put, sia_, sz_, ss_, i64_w, i32_w]); rfl
   (refine done_ (done_of HT_.out (by kernel_rfl)) ?_); (have HS_ := A0_ (Sp.arr (pre := [Res.row kI 2 w0.heap.size (.slice AA22 (L).length cA22) (L), Res.row kI 2 w0.heap.size (.slice AA21 (cntL rows C.toNat seq).length cA21) (cntL rows C.toNat seq), Res.blk g #[.int .i64 C, .int .i64 Q, .slice A rows.length cA, .int .i64 limit, .int .i64 (s.steps + 1), .slice A4 (s.found).length c4, .int .i64 most, .bool false] 55, Res.row kL 32 w0.heap.size (.slice A4 (s.found).length c4) (s.found), Res.row kI 2 w0.heap.size (.slice Aq seq.length cq) seq]) (pre' := [Res.row kI 2 w0.heap.size (.slice AA21 (cntL rows C.toNat seq).length cA21) (cntL rows C.toNat seq), Res.blk g #[.int .i64 C, .int .i64 Q, .slice A rows.length cA, .int .i64 limit, .int .i64 (s.steps + 1), .slice A4 (s.found).length c4, .int .i64 most, .bool false] 55, Res.row kL 32 w0.heap.size (.slice A4 (s.found).length c4) (s.found), Res.row kI 2 w0.heap.size (.slice AA22 (L).length cA22) (L), Res.row kI 2 w0.heap.size (.slice Aq seq.length cq) seq]) (rest := rest) [1, 2, 3, 0, 4] HS.out rfl rfl)); clear HS; (have HS := HS_); clear HS_; (have HS_ := A0_ (Sp.tail HS.out)); clear HS; (have HS := HS_); clear HS_; go_wp2
   go_loopg [6] (L.length + 1) (fun kq v6 w' => ∃ (i : Int) (s' : VS (List Int)) (A4' : Option Addr) (c4' : Nat), v6 = .int .i64 i ∧ Aside0 (0 ≤ i ∧ i ≤ L.length ∧ kq + i.toNat = L.length + 1) ∧ Aside0 (okV limit s') ∧ Aside0 (foldV most (visitG (leafC rows Q.toNat) (kidsC rows Q.toNat) limit most d) ((L.drop i.toNat).map fun j => seq ++ [j]) s' = R) ∧ Aside0 (Sp w0 ([Res.blk g #[.int .i64 C, .int .i64 Q, .slice A rows.length cA, .int .i64 limit, .int .i64 (s'.steps), .slice A4' (s'.found).length c4', .int .i64 most, .bool s'.over] 55, Res.row kL 32 w0.heap.size (.slice A4' (s'.found).length c4') (s'.found), Res.row kI 2 w0.heap.size (.slice AA22 (L).length cA22) (L), Res.row kI 2 w0.heap.size (.slice Aq seq.length cq) seq] ++ rest) w'))
   case atStart => exact ⟨0, ⟨s.steps + 1, s.found, false⟩, A4, c4, rfl, ⟨by omega, by omega, by simp⟩, HOK1, HR0, HS⟩
   case round =>
    clear HS HOK1 HR0; (obtain ⟨i, s', A5, c5, rfl, HX, HOK, HR, HS⟩ := hrel); (obtain ⟨k1, rfl⟩ : ∃ k1, gk = k1 + 1 := ⟨gk - 1, by have := HX.out; omega⟩); (have PX := A0_ HX.out.1); (have pX : (0 ≤ i) = True := eq_true HX.out.1); (have hg_ := (Sp.blk HS.out (i := 0) rfl).1); (have hy5 : wr.cell? ⟨g, 5, none⟩ = some (.slice A5 s'.found.length c5) := (blk_cell hg_ 5).trans rfl); (have hy6 : wr.cell? ⟨g, 6, none⟩ = some (.int .i64 most) := (blk_cell hg_ 6).trans rfl); (have hy7 : wr.cell? ⟨g, 7, none⟩ = some (.bool s'.over) := (blk_cell hg_ 7).trans rfl); clear hg_; (by_cases c : i < (L.length : Int))
    ·(have cb : decide (i < (L.length : Int)) = true := decide_eq_true c); (have QX := A0_ c); (have qX : (i < (L.length : Int)) = True := eq_true c)
     cases ho : s'.over with
     | true =>
      (rw [ho] at hy7); go_wp2; (repeat (go_quiet (fail); try go_wp2)); (first | go_end0 | ((try simp only [Exit.inBlock, Exit.then]); refine bodyPost_ret (results_none rfl _ _ _) rfl ?_)); (have er : R = s' := by rw [← HR.out]; exact fold_stop' most _ _ s' (.inl ho)); subst er; (refine ⟨rfl, A5, c5, ?_⟩); (first | exact Sp.out (Sp.drewN HS.out _) 2 | exact Sp.out (Sp.drew HS.out) 2 | exact Sp.out HS.out 2)
     | false =>
      (rw [ho] at hy7); (by_cases cf : (s'.found.length : Int) < most)
      ·(have cfb : decide ((s'.found.length : Int) < most) = true := decide_eq_true cf); (have HOV := A0_ ho); (rw [ho] at HS); (have hil : i.toNat < L.length := by have := HX.out; omega); (obtain ⟨x, hx⟩ : ∃ x, x = L[i.toNat] := ⟨_, rfl⟩); (have HX1 := A0_ (show rd L i = x from by rw [rd_at L i HX.out.1 c, hx])); (obtain ⟨ado, eo, _⟩ := Kd.at_int (Sp.reads HS.out (i := 2) rfl).2.2 i HX.out.1 c); subst eo; (have HN2 := A0_ (NodeOk.next HND.out HC0.out (j := x) (by rw [hx, ← HLC.out]; exact List.getElem_mem hil))); (have HR2' := (fold_step most (visitG (leafC rows Q.toNat) (kidsC rows Q.toNat) limit most d) seq L i.toNat x hil hx.symm s' ho cf).symm.trans HR.out); (obtain ⟨R1, hR1⟩ : ∃ R1, R1 = visitG (leafC rows Q.toNat) (kidsC rows Q.toNat) limit most d (seq ++ [x]) s' := ⟨_, rfl⟩); (rw [← hR1] at HR2'); (have HR2 := A0_ HR2'); (have HR1 := A0_ hR1.symm); (have HOK1 := A0_ (show okV limit R1 from by rw [hR1]; exact visit_ok _ _ limit most d _ s' HOK.out ho)); (have hwi : wrap64 (i + 1) = i + 1 := by have := HX.out; have := HLL.out; unfold wrap64; omega); clear HR2' hR1 ho hx hil HR; go_wp2; (repeat (go_quiet (fail); try go_wp2)); (have HS_ := A0_ (Sp.drew (Sp.drewN HS.out nq))); clear HS hy5 hy6 hy7; (have HS := HS_); clear HS_; skip
       refine start_ (n := 10) (S := fun w' => w'.cell? (ado.add (i).toNat) = some (.int .i64 x)) (ds := [9]) #[ff,ff,ff,ff,ff,ff,ff,ff,ff,ff] (by kernel_rfl) rfl rfl (at_int_ (Sp.reads HS.out (i := 2) rfl).2.2 PX.out QX.out HX1.out) (fun hHeld => ?_)
       refine with_tabW spec_l14Visit.tab10 spec_l14Visit.bits10 (fun HT_ HW_ => ?_)
       (generalize (wr.drewN nq).drew = wD at HS hHeld ⊢)
       refine pure_ (i := 0) (N := some 82) (v := ?_) (a' := ?_) #[tt,ff,ff,ff,ff,ff,ff,ff,ff,ff] rfl rfl (any_of HT_.out (by kernel_rfl)) (fun _ _ _ h => h) (Or.inl ⟨by rfl, ?_⟩) ?_ ?_
       rotate_left
       ·intro w'; go_simp; with_reducible rfl
       rotate_left
       ·(simp only [Act.put, sia_, sz_, ss_, i64_w, i32_w]); rfl
       refine pure_ (i := 1) (N := some 83) (v := ?_) (a' := ?_) #[tt,tt,ff,ff,ff,ff,ff,ff,ff,ff] rfl rfl (any_of HT_.out (by kernel_rfl)) (fun _ _ _ h => h) (Or.inl ⟨by rfl, ?_⟩) ?_ ?_
       rotate_left
       ·intro w'; go_simp; with_reducible rfl
       rotate_left
       ·(simp only [Act.put, sia_, sz_, ss_, i64_w, i32_w]); rfl
       refine pure_ (i := 3) (N := some 85) (v := ?_) (a' := ?_) #[tt,tt,ff,tt,ff,ff,ff,ff,ff,ff] rfl rfl (any_of HT_.out (by kernel_rfl)) (fun _ _ _ h => h) (Or.inl ⟨by rfl, ?_⟩) ?_ ?_
       rotate_left
       ·intro w'; go_simp; with_reducible rfl
       rotate_left
       ·(simp only [Act.put, sia_, sz_, ss_, i64_w, i32_w]); rfl
       refine pure_ (i := 4) (N := some 86) (v := ?_) (a' := ?_) #[tt,tt,ff,tt,tt,ff,ff,ff,ff,ff] rfl rfl (any_of HT_.out (by kernel_rfl)) (fun _ _ _ h => h) (Or.inl ⟨by rfl, ?_⟩) ?_ ?_
       rotate_left
       ·intro w'; go_simp; with_reducible rfl
       rotate_left
       ·(simp only [Act.put, sia_, sz_, ss_, i64_w, i32_w]); rfl
       refine pure_ (i := 5) (N := some 87) (v := ?_) (a' := ?_) #[tt,tt,ff,tt,tt,tt,ff,ff,ff,ff] rfl rfl (any_of HT_.out (by kernel_rfl)) (fun _ _ _ h => h) (Or.inl ⟨by rfl, ?_⟩) ?_ ?_
       rotate_left
       ·intro w'; go_simp; with_reducible rfl
       rotate_left
       ·(simp only [Act.put, sia_, sz_, ss_, i64_w, i32_w]); rfl
       refine take_ (i := 6) (N := some 88) (v := ?_) (a' := ?_) #[tt,tt,ff,tt,tt,tt,tt,ff,ff,ff] rfl rfl (take_ofW HT_.out HW_.out (by kernel_rfl)) (fun _ _ _ h => h) (Or.inl ⟨by rfl, ?_⟩) hHeld ?_ ?_
       rotate_left
       ·(rintro w' s0); go_simp; with_reducible rfl
       rotate_left
       ·(simp only [Act.put, sia_, sz_, ss_, i64_w, i32_w]); rfl
       refine two_ (i := 2) (j := 7) (Ni := some 84) (Nj := some 89) #[tt,tt,tt,tt,tt,tt,tt,ff,ff,ff] #[tt,tt,ff,tt,tt,tt,tt,tt,ff,ff] rfl rfl rfl rfl (two_of HT_.out (by kernel_rfl)) (by decide) (by decide) (fun K hK => ?_) (fun K hK => ?_)
       ·(refine goes_ Tryd.func87 (by kernel_rfl) rfl #[.slice Aq seq.length cq] (by rfl) rfl rfl (by (try simp only [List.map_toArray, List.map_cons, List.map_nil]); first | done | rfl | (simp only [List.length_drop, List.length_take]; rfl)) ?_); (refine (spec_l01Own.calls Aq cq seq seq _ (Sp.reads HS.out (i := 3) rfl).2.2 (Sp.reads HS.out (i := 3) rfl).2.1 HOWN.out).mono ?_); (rintro e wA41 ⟨vA41, rfl, ho, hb⟩); (refine ⟨_, rfl, ?_⟩); (have HS_ := A0_ (Sp.made' HS.out hb ho)); clear HS; (have HS := HS_); clear HS_; clear hb ho; (obtain ⟨AA41, cA41, rfl⟩ := Sp.slice HS.out (i := 0) rfl)
        refine hK.out _ _ (at_int_ (Sp.reads HS.out (i := 3) rfl).2.2 PX.out QX.out HX1.out) (fun hHeld => ?_)
        clear hK K; (refine norm_ (a' := ?_) ?_ ?_); rotate_left
        ·(show Act.put _ (some 84) _ = _); (simp only [Act.put, sia_, sz_, ss_, i64_w, i32_w]); rfl
        refine one_ (i := 7) (N := some 89) #[tt,tt,tt,tt,tt,tt,tt,tt,ff,ff] rfl rfl (one_of HT_.out (by kernel_rfl)) (by decide) (fun K hK => ?_)
        refine Kd.R_lit_step kI _ 2 ?hg (N := 89) ?hd (xs := ([x] : List Int)) (inner := [.int .i64 x]) (ok := fun _ => True) (okp := fun _ => True) ?hr ?hp (fun _ hk => hk) trivial (Below.refl _ _) (Nat.le_refl _) (by simp) ?_
        ((case hd => rfl)); ((case hg => rfl)); ((case hr => first | (go_simp; done) | (go_simp; rfl))); ((case hp => exact (Reps.one rfl (Reps.none _ _)))); intro vA42 wA42 ho hb hg_ hnew_; clear hg_ hnew_; (have HS_ := A0_ (Sp.made' HS.out hb ho)); clear HS; (have HS := HS_); clear HS_; clear hb ho; (obtain ⟨AA42, cA42, eA_⟩ := Sp.slice HS.out (i := 0) rfl); subst eA_
        refine hK.out _ _ (at_int_ (Sp.reads HS.out (i := 4) rfl).2.2 PX.out QX.out HX1.out) (fun hHeld => ?_)
        clear hK K; (refine norm_ (a' := ?_) ?_ ?_); rotate_left
        ·(show Act.put _ (some 89) _ = _); (simp only [Act.put, sia_, sz_, ss_, i64_w, i32_w]); rfl
        refine one_ (i := 8) (N := some 90) #[tt,tt,tt,tt,tt,tt,tt,tt,tt,ff] rfl rfl (one_of HT_.out (by kernel_rfl)) (by decide) (fun K hK => ?_)
        (obtain ⟨fp_, ho_, hf_, hc_⟩ := Sp.row HS.out (i := 1) rfl)
        refine Kd.R_append_rows_step kI w0.heap.size (by rfl) (.tmp 84) (.tmp 89) 32 2 (.int .i64 0) 8 rfl Tryd.underlying32 info2 rfl (by decide) (by omega) _ seq ([x] : List Int) _ _ _ _ (fun _ => False) rfl rfl ho_ (Sp.reads HS.out (i := 0) rfl).2.2 (fun _ _ h => h) (fun _ h => h.elim) (fun _ h => .inr h) HS.out.below HS.out.below.size ?aL ?_
        ((case aL => have := HND.out.len; simp only [List.length_singleton, List.length_cons, List.length_nil]; omega)); intro vA43 wA43 ho hb hg hat; (have HS_ := A0_ (hc_ _ _ _ ho hg)); clear HS; (have HS := HS_); clear HS_; clear ho hb hg hat ho_ hf_ hc_ fp_; (obtain ⟨AA43, cA43, eA_⟩ := Sp.slice HS.out (i := 1) rfl); subst eA_
        refine hK.out _ _ (at_int_ (Sp.reads HS.out (i := 4) rfl).2.2 PX.out QX.out HX1.out) (fun hHeld => ?_)
        clear hK K; (refine norm_ (a' := ?_) ?_ ?_); rotate_left
        ·(show Act.put _ (some 90) _ = _); (simp only [Act.put, sia_, sz_, ss_, i64_w, i32_w]); rfl
        refine last_ (i := 9) (N := some 91) #[tt,tt,tt,tt,tt,tt,tt,tt,tt,tt] rfl rfl (one_of HT_.out (by kernel_rfl)) (by decide) (fun K hK => ?_)
        (have HS_ := A0_ (Sp.arr (pre := [Res.row kI 2 w0.heap.size (.slice AA42 (([x] : List Int)).length cA42) (([x] : List Int)), Res.row kI 2 w0.heap.size (.slice AA43 (seq ++ ([x] : List Int)).length cA43) (seq ++ ([x] : List Int)), Res.blk g #[.int .i64 C, .int .i64 Q, .slice A rows.length cA, .int .i64 limit, .int .i64 (s'.steps), .slice A5 (s'.found).length c5, .int .i64 most, .bool false] 55, Res.row kL 32 w0.heap.size (.slice A5 (s'.found).length c5) (s'.found), Res.row kI 2 w0.heap.size (.slice (some ado) (L).length cA22) (L), Res.row kI 2 w0.heap.size (.slice Aq seq.length cq) seq]) (pre' := [Res.blk g #[.int .i64 C, .int .i64 Q, .slice A rows.length cA, .int .i64 limit, .int .i64 (s'.steps), .slice A5 (s'.found).length c5, .int .i64 most, .bool false] 55, Res.row kL 32 w0.heap.size (.slice A5 (s'.found).length c5) (s'.found), Res.row kI 2 w0.heap.size (.slice AA43 (seq ++ ([x] : List Int)).length cA43) (seq ++ ([x] : List Int)), Res.row kI 2 w0.heap.size (.slice AA42 (([x] : List Int)).length cA42) (([x] : List Int)), Res.row kI 2 w0.heap.size (.slice (some ado) (L).length cA22) (L), Res.row kI 2 w0.heap.size (.slice Aq seq.length cq) seq]) (rest := rest) [2, 3, 1, 0, 4, 5] HS.out rfl rfl)); clear HS; (have HS := HS_); clear HS_; (refine goes_ Tryd.func75 (by kernel_rfl) rfl #[.pointer (some ⟨g, 0, none⟩), .slice AA43 (seq ++ [x]).length cA43] (by rfl) rfl rfl (by (try simp only [List.map_toArray, List.map_cons, List.map_nil]); first | done | rfl | (simp only [List.length_drop, List.length_take]; rfl)) ?_); (refine (IH.out (seq ++ [x]) s' _ ([Res.row kI 2 w0.heap.size (.slice AA42 (([x] : List Int)).length cA42) (([x] : List Int)), Res.row kI 2 w0.heap.size (.slice (some ado) (L).length cA22) (L), Res.row kI 2 w0.heap.size (.slice Aq seq.length cq) seq] ++ rest) AA43 cA43 A5 c5 HN2.out HOK.out HOV.out HS.out).mono ?_); (rintro e wB ⟨rfl, A6, c6, hs_⟩); (refine ⟨_, rfl, ?_⟩); (have HS_ := A0_ hs_); clear HS hs_; (have HS := HS_); clear HS_; (rw [HR1.out] at HS); (refine hK.out _ _ ?_); clear hK K; (refine norm_ (a' := ?_) ?_ ?_); rotate_left
        ·(show Act.put _ (some 91) _ = _); (simp only [Act.put, sia_, sz_, ss_, i64_w, i32_w]); rfl
        (refine done_ (done_of HT_.out (by kernel_rfl)) ?_); (have HS_ := A0_ (Sp.arr (pre := [Res.blk g #[.int .i64 C, .int .i64 Q, .slice A rows.length cA, .int .i64 limit, .int .i64 (R1.steps), .slice A6 (R1.found).length c6, .int .i64 most, .bool R1.over] 55, Res.row kL 32 w0.heap.size (.slice A6 (R1.found).length c6) (R1.found), Res.row kI 2 w0.heap.size (.slice AA43 (seq ++ ([x] : List Int)).length cA43) (seq ++ ([x] : List Int)), Res.row kI 2 w0.heap.size (.slice AA42 (([x] : List Int)).length cA42) (([x] : List Int)), Res.row kI 2 w0.heap.size (.slice (some ado) (L).length cA22) (L), Res.row kI 2 w0.heap.size (.slice Aq seq.length cq) seq]) (pre' := [Res.row kI 2 w0.heap.size (.slice AA43 (seq ++ ([x] : List Int)).length cA43) (seq ++ ([x] : List Int)), Res.row kI 2 w0.heap.size (.slice AA42 (([x] : List Int)).length cA42) (([x] : List Int)), Res.blk g #[.int .i64 C, .int .i64 Q, .slice A rows.length cA, .int .i64 limit, .int .i64 (R1.steps), .slice A6 (R1.found).length c6, .int .i64 most, .bool R1.over] 55, Res.row kL 32 w0.heap.size (.slice A6 (R1.found).length c6) (R1.found), Res.row kI 2 w0.heap.size (.slice (some ado) (L).length cA22) (L), Res.row kI 2 w0.heap.size (.slice Aq seq.length cq) seq]) (rest := rest) [2, 3, 0, 1, 4, 5] HS.out rfl rfl)); clear HS; (have HS := HS_); clear HS_; (have HS_ := A0_ (Sp.tail (Sp.tail HS.out))); clear HS; (have HS := HS_); clear HS_; (try go_wp2); (go_roundg k1)
        case measure => omega
        case rel => exact ⟨i + 1, R1, A6, c6, (by first | rfl | rw [hwi]), ⟨by have := HX.out; omega, by have := HX.out; omega, by have := HX.out; omega⟩, HOK1, ⟨by rw [show (i + 1).toNat = i.toNat + 1 from by have := HX.out; omega]; exact HR2.out⟩, HS⟩
       ·refine Kd.R_lit_step kI _ 2 ?hg (N := 89) ?hd (xs := ([x] : List Int)) (inner := [.int .i64 x]) (ok := fun _ => True) (okp := fun _ => True) ?hr ?hp (fun _ hk => hk) trivial (Below.refl _ _) (Nat.le_refl _) (by simp) ?_
        ((case hd => rfl)); ((case hg => rfl)); ((case hr => first | (go_simp; done) | (go_simp; rfl))); ((case hp => exact (Reps.one rfl (Reps.none _ _)))); intro vA41 wA41 ho hb hg_ hnew_; clear hg_ hnew_; (have HS_ := A0_ (Sp.made' HS.out hb ho)); clear HS; (have HS := HS_); clear HS_; clear hb ho; (obtain ⟨AA41, cA41, eA_⟩ := Sp.slice HS.out (i := 0) rfl); subst eA_
        refine hK.out _ _ (at_int_ (Sp.reads HS.out (i := 3) rfl).2.2 PX.out QX.out HX1.out) (fun hHeld => ?_)
        clear hK K; (refine norm_ (a' := ?_) ?_ ?_); rotate_left
        ·(show Act.put _ (some 89) _ = _); (simp only [Act.put, sia_, sz_, ss_, i64_w, i32_w]); rfl
        refine one_ (i := 2) (N := some 84) #[tt,tt,tt,tt,tt,tt,tt,tt,ff,ff] rfl rfl (one_of HT_.out (by kernel_rfl)) (by decide) (fun K hK => ?_)
        (refine goes_ Tryd.func87 (by kernel_rfl) rfl #[.slice Aq seq.length cq] (by rfl) rfl rfl (by (try simp only [List.map_toArray, List.map_cons, List.map_nil]); first | done | rfl | (simp only [List.length_drop, List.length_take]; rfl)) ?_); (refine (spec_l01Own.calls Aq cq seq seq _ (Sp.reads HS.out (i := 4) rfl).2.2 (Sp.reads HS.out (i := 4) rfl).2.1 HOWN.out).mono ?_); (rintro e wA42 ⟨vA42, rfl, ho, hb⟩); (refine ⟨_, rfl, ?_⟩); (have HS_ := A0_ (Sp.made' HS.out hb ho)); clear HS; (have HS := HS_); clear HS_; clear hb ho; (obtain ⟨AA42, cA42, rfl⟩ := Sp.slice HS.out (i := 0) rfl)
        refine hK.out _ _ (at_int_ (Sp.reads HS.out (i := 4) rfl).2.2 PX.out QX.out HX1.out) (fun hHeld => ?_)
        clear hK K; (refine norm_ (a' := ?_) ?_ ?_); rotate_left
        ·(show Act.put _ (some 84) _ = _); (simp only [Act.put, sia_, sz_, ss_, i64_w, i32_w]); rfl
        refine one_ (i := 8) (N := some 90) #[tt,tt,tt,tt,tt,tt,tt,tt,tt,ff] rfl rfl (one_of HT_.out (by kernel_rfl)) (by decide) (fun K hK => ?_)
        (obtain ⟨fp_, ho_, hf_, hc_⟩ := Sp.row HS.out (i := 0) rfl)
        refine Kd.R_append_rows_step kI w0.heap.size (by rfl) (.tmp 84) (.tmp 89) 32 2 (.int .i64 0) 8 rfl Tryd.underlying32 info2 rfl (by decide) (by omega) _ seq ([x] : List Int) _ _ _ _ (fun _ => False) rfl rfl ho_ (Sp.reads HS.out (i := 1) rfl).2.2 (fun _ _ h => h) (fun _ h => h.elim) (fun _ h => .inr h) HS.out.below HS.out.below.size ?aL ?_
        ((case aL => have := HND.out.len; simp only [List.length_singleton, List.length_cons, List.length_nil]; omega)); intro vA43 wA43 ho hb hg hat; (have HS_ := A0_ (hc_ _ _ _ ho hg)); clear HS; (have HS := HS_); clear HS_; clear ho hb hg hat ho_ hf_ hc_ fp_; (obtain ⟨AA43, cA43, eA_⟩ := Sp.slice HS.out (i := 0) rfl); subst eA_
        refine hK.out _ _ (at_int_ (Sp.reads HS.out (i := 4) rfl).2.2 PX.out QX.out HX1.out) (fun hHeld => ?_)
        clear hK K; (refine norm_ (a' := ?_) ?_ ?_); rotate_left
        ·(show Act.put _ (some 90) _ = _); (simp only [Act.put, sia_, sz_, ss_, i64_w, i32_w]); rfl
        refine last_ (i := 9) (N := some 91) #[tt,tt,tt,tt,tt,tt,tt,tt,tt,tt] rfl rfl (one_of HT_.out (by kernel_rfl)) (by decide) (fun K hK => ?_)
        (have HS_ := A0_ (Sp.arr (pre := [Res.row kI 2 w0.heap.size (.slice AA43 (seq ++ ([x] : List Int)).length cA43) (seq ++ ([x] : List Int)), Res.row kI 2 w0.heap.size (.slice AA41 (([x] : List Int)).length cA41) (([x] : List Int)), Res.blk g #[.int .i64 C, .int .i64 Q, .slice A rows.length cA, .int .i64 limit, .int .i64 (s'.steps), .slice A5 (s'.found).length c5, .int .i64 most, .bool false] 55, Res.row kL 32 w0.heap.size (.slice A5 (s'.found).length c5) (s'.found), Res.row kI 2 w0.heap.size (.slice (some ado) (L).length cA22) (L), Res.row kI 2 w0.heap.size (.slice Aq seq.length cq) seq]) (pre' := [Res.blk g #[.int .i64 C, .int .i64 Q, .slice A rows.length cA, .int .i64 limit, .int .i64 (s'.steps), .slice A5 (s'.found).length c5, .int .i64 most, .bool false] 55, Res.row kL 32 w0.heap.size (.slice A5 (s'.found).length c5) (s'.found), Res.row kI 2 w0.heap.size (.slice AA43 (seq ++ ([x] : List Int)).length cA43) (seq ++ ([x] : List Int)), Res.row kI 2 w0.heap.size (.slice AA41 (([x] : List Int)).length cA41) (([x] : List Int)), Res.row kI 2 w0.heap.size (.slice (some ado) (L).length cA22) (L), Res.row kI 2 w0.heap.size (.slice Aq seq.length cq) seq]) (rest := rest) [2, 3, 0, 1, 4, 5] HS.out rfl rfl)); clear HS; (have HS := HS_); clear HS_; (refine goes_ Tryd.func75 (by kernel_rfl) rfl #[.pointer (some ⟨g, 0, none⟩), .slice AA43 (seq ++ [x]).length cA43] (by rfl) rfl rfl (by (try simp only [List.map_toArray, List.map_cons, List.map_nil]); first | done | rfl | (simp only [List.length_drop, List.length_take]; rfl)) ?_); (refine (IH.out (seq ++ [x]) s' _ ([Res.row kI 2 w0.heap.size (.slice AA41 (([x] : List Int)).length cA41) (([x] : List Int)), Res.row kI 2 w0.heap.size (.slice (some ado) (L).length cA22) (L), Res.row kI 2 w0.heap.size (.slice Aq seq.length cq) seq] ++ rest) AA43 cA43 A5 c5 HN2.out HOK.out HOV.out HS.out).mono ?_); (rintro e wB ⟨rfl, A6, c6, hs_⟩); (refine ⟨_, rfl, ?_⟩); (have HS_ := A0_ hs_); clear HS hs_; (have HS := HS_); clear HS_; (rw [HR1.out] at HS); (refine hK.out _ _ ?_); clear hK K; (refine norm_ (a' := ?_) ?_ ?_); rotate_left
        ·(show Act.put _ (some 91) _ = _); (simp only [Act.put, sia_, sz_, ss_, i64_w, i32_w]); rfl
        (refine done_ (done_of HT_.out (by kernel_rfl)) ?_); (have HS_ := A0_ (Sp.arr (pre := [Res.blk g #[.int .i64 C, .int .i64 Q, .slice A rows.length cA, .int .i64 limit, .int .i64 (R1.steps), .slice A6 (R1.found).length c6, .int .i64 most, .bool R1.over] 55, Res.row kL 32 w0.heap.size (.slice A6 (R1.found).length c6) (R1.found), Res.row kI 2 w0.heap.size (.slice AA43 (seq ++ ([x] : List Int)).length cA43) (seq ++ ([x] : List Int)), Res.row kI 2 w0.heap.size (.slice AA41 (([x] : List Int)).length cA41) (([x] : List Int)), Res.row kI 2 w0.heap.size (.slice (some ado) (L).length cA22) (L), Res.row kI 2 w0.heap.size (.slice Aq seq.length cq) seq]) (pre' := [Res.row kI 2 w0.heap.size (.slice AA43 (seq ++ ([x] : List Int)).length cA43) (seq ++ ([x] : List Int)), Res.row kI 2 w0.heap.size (.slice AA41 (([x] : List Int)).length cA41) (([x] : List Int)), Res.blk g #[.int .i64 C, .int .i64 Q, .slice A rows.length cA, .int .i64 limit, .int .i64 (R1.steps), .slice A6 (R1.found).length c6, .int .i64 most, .bool R1.over] 55, Res.row kL 32 w0.heap.size (.slice A6 (R1.found).length c6) (R1.found), Res.row kI 2 w0.heap.size (.slice (some ado) (L).length cA22) (L), Res.row kI 2 w0.heap.size (.slice Aq seq.length cq) seq]) (rest := rest) [2, 3, 0, 1, 4, 5] HS.out rfl rfl)); clear HS; (have HS := HS_); clear HS_; (have HS_ := A0_ (Sp.tail (Sp.tail HS.out))); clear HS; (have HS := HS_); clear HS_; (try go_wp2); (go_roundg k1)
        case measure => omega
        case rel => exact ⟨i + 1, R1, A6, c6, (by first | rfl | rw [hwi]), ⟨by have := HX.out; omega, by have := HX.out; omega, by have := HX.out; omega⟩, HOK1, ⟨by rw [show (i + 1).toNat = i.toNat + 1 from by have := HX.out; omega]; exact HR2.out⟩, HS⟩
      ·(have cfb : decide ((s'.found.length : Int) < most) = false := decide_eq_false cf); go_wp2; (repeat (go_quiet (fail); try go_wp2)); (first | go_end0 | ((try simp only [Exit.inBlock, Exit.then]); refine bodyPost_ret (results_none rfl _ _ _) rfl ?_)); (have er : R = s' := by rw [← HR.out]; exact fold_stop' most _ _ s' (.inr (by omega))); subst er; (refine ⟨rfl, A5, c5, ?_⟩); (first | exact Sp.out (Sp.drewN HS.out _) 2 | exact Sp.out (Sp.drew HS.out) 2 | exact Sp.out HS.out 2)
    ·(have cb : decide (i < (L.length : Int)) = false := decide_eq_false c); go_wp2; (repeat (go_quiet (fail); try go_wp2)); (first | go_end0 | ((try simp only [Exit.inBlock, Exit.then]); refine bodyPost_ret (results_none rfl _ _ _) rfl ?_)); (have er : R = s' := by rw [← HR.out, List.drop_eq_nil_of_le (by have := HX.out; omega)]; rfl); subst er; (refine ⟨rfl, A5, c5, ?_⟩); (first | exact Sp.out (Sp.drewN HS.out _) 2 | exact Sp.out (Sp.drew HS.out) 2 | exact Sp.out HS.out 2)
end Go.Proofs.YtoglcgnbkibpgaaDoor.A

/- What the reference answers out of its search for covers, walked: the run, and the counts. -/
namespace Go.Proofs.YtoglcgnbkibpgaaDoor.A
open Go.RowKit Go.Proofs.YtoglcgnbkibpgaaDoorW.PrintWords Go.Proofs.YtoglcgnbkibpgaaDoorW.PrintLast Go.Proofs.YtoglcgnbkibpgaaDoorW.PrintMore Go.Proofs.YtoglcgnbkibpgaaDoorW.Cov Go.Proofs.YtoglcgnbkibpgaaDoorW.Tree
set_option linter.unusedVariables false
set_option linter.unusedSimpArgs false
theorem Sp.root {w w1 w2 : World} {rs : List Res} (h : Sp w1 rs w2) (hb : Below w.heap.size w w1) : Sp w rs w2 := by
  obtain ⟨F, h1, h2, h3⟩ := h.foot
  exact ⟨hb.trans (h.below.mono hb.size), F, h1, h2, fun i k hk => ⟨Nat.le_trans hb.size (h3 i k hk).1, (h3 i k hk).2⟩⟩
def runV (rows : List (List Int)) (Q limit most : Int) : VS (List Int) := visitG (leafC rows Q.toNat) (kidsC rows Q.toNat) limit most Q.toNat [] ⟨0, [], false⟩
/-- The reference's state at its end, and the rows that it has found. -/
abbrev stateR (C Q : Int) (A : Option Addr) (cA : Nat) (rows : List (List Int)) (limit most : Int) (R : VS (List Int)) (base g : Nat) (A4 : Option Addr) (c4 : Nat) : List Res :=
  [Res.blk g #[.int .i64 C, .int .i64 Q, .slice A rows.length cA, .int .i64 limit, .int .i64 R.steps, .slice A4 R.found.length c4, .int .i64 most, .bool R.over] 55, Res.row kL 32 base (.slice A4 R.found.length c4) R.found]
set_option maxHeartbeats 1000000 in
set_option maxRecDepth 100000 in
theorem spec_l14Run.calls' {C Q : Int} {rows : List (List Int)} (h : CovOk C Q rows) (limit most : Int) (hlim : 0 ≤ limit ∧ limit ≤ 20000) (w : World) (A : Option Addr) (cA : Nat) (hR : Kd.C kL w A rows.length rows) (hcA : rows.length ≤ cA) :
    Calls Tryd.prog 48 #[.agg #[.int .i64 C, .int .i64 Q, .slice A rows.length cA], .int .i64 limit, .int .i64 most] w fun e w' => ∃ (g : Nat) (A4 : Option Addr) (c4 : Nat), e = .returned (.pointer (some ⟨g, 0, none⟩)) ∧ Sp w (stateR C Q A cA rows limit most (runV rows Q limit most) w.heap.size g A4 c4) w' := by
  obtain ⟨R, hRe⟩ : ∃ R, R = runV rows Q limit most := ⟨_, rfl⟩
  rw [← hRe]
  have HRE := A0_ hRe
  have HN := A0_ (NodeOk.root rows Q.toNat (by have := h.c60; have := h.qc; omega))
  have HOK := A0_ (show okV limit (⟨0, [], false⟩ : VS (List Int)) from ⟨by decide, by dsimp only; omega, by simp, fun _ => by dsimp only; omega⟩)
  have HS2 := A0_ (show Sp w ([Res.blk (w.heap.size + 1) #[.int .i64 C, .int .i64 Q, .slice A rows.length cA, .int .i64 limit, .int .i64 0, .slice none 0 0, .int .i64 most, .bool false] 55, Res.row kL 32 w.heap.size (.slice none 0 0) []] ++ [])
      ((w.alloc (.cells #[.int .i64 C, .int .i64 Q, .slice A rows.length cA] 28)).alloc (.cells #[.int .i64 C, .int .i64 Q, .slice A rows.length cA, .int .i64 limit, .int .i64 0, .slice none 0 0, .int .i64 most, .bool false] 55)) from by
    have s0 := Sp.alloc (Sp.start w) (.cells #[.int .i64 C, .int .i64 Q, .slice A rows.length cA] 28)
    have s1 := Sp.made s0 (Below.refl _ _) (Kd.R_nil kL 32 _ w.heap.size _)
    have s2 := Sp.box s1 #[.int .i64 C, .int .i64 Q, .slice A rows.length cA, .int .i64 limit, .int .i64 0, .slice none 0 0, .int .i64 most, .bool false] 55
    simpa using s2)
  clear hRe
  go_enter Tryd.func48, Tryd.ntmps48
  go_wp2_with (first
    | ((with_reducible refine gate_dst (N := 14) rfl ?_); refine Kd.R_lit kI _ 2 ?hg (N := 14) ?hd (xs := ([] : List Int)) (inner := []) (ok := fun _ => True) (okp := fun _ => True) ?hr ?hp (fun _ hk => hk) trivial (Below.refl _ _) (Nat.le_refl _) (by simp) ?_; (case hd => rfl); (case hg => rfl); (case hr => first | (go_simp; done) | (go_simp; rfl)); (case hp => exact (Reps.none _ _)); intro v1 w1 ho hb hg_ hnew_; clear hg_ hnew_; have HS3 := A0_ (Sp.made' HS2.out hb ho); clear HS2 hb ho; obtain ⟨Aq, cq, eq_⟩ := Sp.slice HS3.out (i := 0) rfl; subst eq_;
       have HS := A0_ (Sp.arr (pre := [Res.row kI 2 w.heap.size (.slice Aq ([] : List Int).length cq) [], Res.blk (w.heap.size + 1) #[.int .i64 C, .int .i64 Q, .slice A rows.length cA, .int .i64 limit, .int .i64 0, .slice none 0 0, .int .i64 most, .bool false] 55, Res.row kL 32 w.heap.size (.slice none 0 0) []]) (pre' := [Res.blk (w.heap.size + 1) #[.int .i64 C, .int .i64 Q, .slice A rows.length cA, .int .i64 limit, .int .i64 0, .slice none 0 0, .int .i64 most, .bool false] 55, Res.row kL 32 w.heap.size (.slice none 0 0) [], Res.row kI 2 w.heap.size (.slice Aq ([] : List Int).length cq) []]) (rest := []) [1, 2, 0] HS3.out rfl rfl); clear HS3)
    | (go_at_call 75; refine (spec_l14Visit.calls' h limit most hlim w A cA hR hcA (w.heap.size + 1) Q.toNat [] ⟨0, [], false⟩ w1 [] Aq cq none 0 HN.out HOK.out rfl HS.out).mono ?_; rintro e w2 ⟨rfl, A4, c4, hs⟩; have HS4 := A0_ hs; clear hs HS))
  go_ret
  refine ⟨_, A4, c4, rfl, ?_⟩
  have hz := Sp.out HS4.out 2
  rw [HRE.out]
  exact hz
def nodesR (rows : List (List Int)) (Q : Int) : VS (List Int) := runV rows Q 20000 20001
set_option maxHeartbeats 1000000 in
set_option maxRecDepth 100000 in
theorem spec_l14All.bad (k : Nat) (C Q : Int) (rows : List (List Int)) (w : World) (A : Option Addr) (cA : Nat) (hR : Kd.C kL w A rows.length rows) (hcA : rows.length ≤ cA) (hk : spec_IsCover.f k C Q rows = some false) :
    Calls Tryd.prog 42 #[.agg #[.int .i64 C, .int .i64 Q, .slice A rows.length cA]] w fun e w' => e = .returned (.tuple #[.pointer none, .int .i64 1]) ∧ Below w.heap.size w w' := by
  have HK := A0_ hk
  clear hk
  have HB0 := A0_ (below_alloc (Below.refl w.heap.size w) (.cells #[.int .i64 C, .int .i64 Q, .slice A rows.length cA] 28))
  go_enter Tryd.func42, Tryd.ntmps42
  go_wp2_with (first
    | (go_at_call 47; refine (spec_IsCover.calls k C Q A cA rows false _ (Kd.C_below hR HB0.out) hcA HK.out).mono ?_; rintro e w1 ⟨rfl, hb⟩; have HB := A0_ (below_step HB0.out hb); clear hb))
  go_ret2
  exact ⟨rfl, HB.out⟩
set_option maxHeartbeats 1000000 in
set_option maxRecDepth 100000 in
theorem spec_l14All.over (k : Nat) (C Q : Int) (rows : List (List Int)) (h : CovOk C Q rows) (w : World) (A : Option Addr) (cA : Nat) (hR : Kd.C kL w A rows.length rows) (hcA : rows.length ≤ cA) (hk : spec_IsCover.f k C Q rows = some true) (ho : (nodesR rows Q).over = true) :
    Calls Tryd.prog 42 #[.agg #[.int .i64 C, .int .i64 Q, .slice A rows.length cA]] w fun e w' => e = .returned (.tuple #[.pointer none, .int .i64 3]) ∧ Below w.heap.size w w' := by
  have HK := A0_ hk
  have HO := A0_ ho
  clear hk ho
  have HB0 := A0_ (below_alloc (Below.refl w.heap.size w) (.cells #[.int .i64 C, .int .i64 Q, .slice A rows.length cA] 28))
  have hc0 : ∀ j, j < 3 → (w.alloc (.cells #[.int .i64 C, .int .i64 Q, .slice A rows.length cA] 28)).cell? ⟨w.heap.size, j, none⟩ = #[Value.int .i64 C, .int .i64 Q, .slice A rows.length cA][j]? := fun j _ => blk_cell (blk_new w _) j
  have HC0 := A0_ hc0
  clear hc0
  go_enter Tryd.func42, Tryd.ntmps42
  go_wp2_with (first
    | (go_at_call 47; refine (spec_IsCover.calls k C Q A cA rows true _ (Kd.C_below hR HB0.out) hcA HK.out).mono ?_; rintro e w1 ⟨rfl, hb⟩; have HB := A0_ (below_step HB0.out hb); have hq0 := (hb.cell (p := ⟨w.heap.size, 0, none⟩) (by simp)).trans ((HC0.out 0 (by decide)).trans rfl); have hq1 := (hb.cell (p := ⟨w.heap.size, 1, none⟩) (by simp)).trans ((HC0.out 1 (by decide)).trans rfl); have hq2 := (hb.cell (p := ⟨w.heap.size, 2, none⟩) (by simp)).trans ((HC0.out 2 (by decide)).trans rfl); clear hb)
    | (go_at_call 48; refine (spec_l14Run.calls' h 20000 20001 (by decide) w1 A cA (Kd.C_below hR HB.out) hcA).mono ?_; rintro e w2 ⟨g, A4, c4, rfl, hs⟩; have HS := A0_ (Sp.root hs HB.out); have hy7 := (blk_cell (Sp.blk hs (i := 0) rfl).1 7).trans rfl; rw [show (runV rows Q 20000 20001).over = true from HO.out] at hy7; clear hs hq0 hq1 hq2))
  go_ret2
  exact ⟨rfl, HS.out.below⟩
set_option maxHeartbeats 1000000 in
set_option maxRecDepth 100000 in
theorem spec_l14All.good (k : Nat) (C Q : Int) (rows : List (List Int)) (h : CovOk C Q rows) (w : World) (A : Option Addr) (cA : Nat) (hR : Kd.C kL w A rows.length rows) (hcA : rows.length ≤ cA) (hk : spec_IsCover.f k C Q rows = some true) (ho : (nodesR rows Q).over = false) :
    Calls Tryd.prog 42 #[.agg #[.int .i64 C, .int .i64 Q, .slice A rows.length cA]] w fun e w' => ∃ (g : Nat) (A4 : Option Addr) (c4 : Nat), e = .returned (.tuple #[.pointer (some ⟨g, 0, none⟩), .int .i64 0]) ∧ Sp w (stateR C Q A cA rows 20000 20001 (nodesR rows Q) w.heap.size g A4 c4) w' := by
  have HK := A0_ hk
  have HO := A0_ ho
  clear hk ho
  have HB0 := A0_ (below_alloc (Below.refl w.heap.size w) (.cells #[.int .i64 C, .int .i64 Q, .slice A rows.length cA] 28))
  have hc0 : ∀ j, j < 3 → (w.alloc (.cells #[.int .i64 C, .int .i64 Q, .slice A rows.length cA] 28)).cell? ⟨w.heap.size, j, none⟩ = #[Value.int .i64 C, .int .i64 Q, .slice A rows.length cA][j]? := fun j _ => blk_cell (blk_new w _) j
  have HC0 := A0_ hc0
  clear hc0
  go_enter Tryd.func42, Tryd.ntmps42
  go_wp2_with (first
    | (go_at_call 47; refine (spec_IsCover.calls k C Q A cA rows true _ (Kd.C_below hR HB0.out) hcA HK.out).mono ?_; rintro e w1 ⟨rfl, hb⟩; have HB := A0_ (below_step HB0.out hb); have hq0 := (hb.cell (p := ⟨w.heap.size, 0, none⟩) (by simp)).trans ((HC0.out 0 (by decide)).trans rfl); have hq1 := (hb.cell (p := ⟨w.heap.size, 1, none⟩) (by simp)).trans ((HC0.out 1 (by decide)).trans rfl); have hq2 := (hb.cell (p := ⟨w.heap.size, 2, none⟩) (by simp)).trans ((HC0.out 2 (by decide)).trans rfl); clear hb)
    | (go_at_call 48; refine (spec_l14Run.calls' h 20000 20001 (by decide) w1 A cA (Kd.C_below hR HB.out) hcA).mono ?_; rintro e w2 ⟨g, A4, c4, rfl, hs⟩; have HS := A0_ (Sp.root hs HB.out); have hy7 := (blk_cell (Sp.blk hs (i := 0) rfl).1 7).trans rfl; rw [show (runV rows Q 20000 20001).over = false from HO.out] at hy7; clear hs hq0 hq1 hq2))
  go_ret2
  exact ⟨g, A4, c4, rfl, Sp.weak HS.out (i := 1) rfl (fun fp hp => Kd.R_lower hp HB.out.size)⟩
def sizesOk (rows : List (List Int)) : Prop := rows.length ≤ 1048576 ∧ ∀ r ∈ rows, r.length ≤ 1048576
instance (rows : List (List Int)) : Decidable (sizesOk rows) := by unfold sizesOk; exact inferInstance
end Go.Proofs.YtoglcgnbkibpgaaDoor.A

/- Forced rows: the plain words. No program in sight. -/
namespace Go.Proofs.YtoglcgnbkibpgaaDoor.A
open Go.RowKit Go.Proofs.YtoglcgnbkibpgaaDoorW.PrintWords Go.Proofs.YtoglcgnbkibpgaaDoorW.PrintLast Go.Proofs.YtoglcgnbkibpgaaDoorW.PrintMore Go.Proofs.YtoglcgnbkibpgaaDoorW.Cov Go.Proofs.YtoglcgnbkibpgaaDoorW.Tree
set_option linter.unusedVariables false
set_option linter.unusedSimpArgs false
theorem found_nodup {C Q : Int} {rows : List (List Int)} (h : CovOk C Q rows) (limit most : Int) : ∀ x ∈ (runV rows Q limit most).found, x.Nodup ∧ x.length ≤ 60 ∧ ∀ j ∈ x, 0 ≤ j ∧ j < (rows.length : Int) := by
  unfold runV
  refine found_good (leafC rows Q.toNat) (kidsC rows Q.toNat) limit most (fun seq => seq.Nodup ∧ ∃ d, NodeOk rows Q.toNat d seq ∧ seq.length + d ≤ 60) (fun b => b.Nodup ∧ b.length ≤ 60 ∧ ∀ j ∈ b, 0 ≤ j ∧ j < (rows.length : Int)) (fun n b hn hb => ?_) (fun n hn hl m hm => ?_) Q.toNat [] ⟨0, [], false⟩ ⟨List.nodup_nil, _, NodeOk.root rows Q.toNat (by have := h.c60; have := h.qc; omega), by have := h.c60; have := h.qc; simp; omega⟩ (fun b hb => by simp at hb)
  · obtain ⟨h1, d, hd, h2⟩ := hn
    unfold leafC at hb
    split at hb
    · injection hb with hb
      subst hb
      exact ⟨h1, by omega, hd.idx⟩
    · cases hb
  · obtain ⟨h0, d, hd, h2⟩ := hn
    unfold leafC at hl
    split at hl
    · cases hl
    · rename_i hc
      have h1 : 1 ≤ d := by have := uncov_pos (show 0 ≤ colV rows Q.toNat n by omega); have := hd.dep; omega
      obtain ⟨d, rfl⟩ : ∃ d', d = d' + 1 := ⟨d - 1, by omega⟩
      unfold kidsC at hm
      rw [List.mem_map] at hm
      obtain ⟨j, hj, rfl⟩ := hm
      obtain ⟨j0, j1, j2, j3⟩ := openRows_mem hj
      refine ⟨?_, d, NodeOk.next hd (by omega) hj, by simp; omega⟩
      rw [List.nodup_append]
      refine ⟨h0, by simp, ?_⟩
      intro a ha b hb
      simp only [List.mem_singleton] at hb
      subst hb
      rintro rfl
      unfold openR at j3
      rw [List.all_eq_true] at j3
      have h5 := j3 _ (List.contains_iff_mem.1 j2)
      have h6 : cov rows n (colV rows Q.toNat n) = true := by
        unfold cov
        rw [List.any_eq_true]
        exact ⟨a, ha, j2⟩
      rw [h6] at h5
      cases h5
end Go.Proofs.YtoglcgnbkibpgaaDoor.A

namespace Go.Proofs.YtoglcgnbkibpgaaDoor.A
open Go.RowKit Go.Proofs.YtoglcgnbkibpgaaDoorW.PrintWords Go.Proofs.YtoglcgnbkibpgaaDoorW.PrintLast Go.Proofs.YtoglcgnbkibpgaaDoorW.PrintMore
attribute [local go_sem] max2_int min2_int max_two min_two max_three min_three max_four min_four   -- for this text's walks alone
set_option linter.unusedVariables false
set_option linter.unusedSimpArgs false
def impl_within.f (a0 : Int) (a1 : Int) (a2 : Int) : Option (Bool) := if a0 ≥ a1 then (some (decide (a0 ≤ a2))) else (some false)
set_option maxHeartbeats 8000000 in
set_option maxRecDepth 100000 in
theorem impl_within.calls (a0 : Int) (a1 : Int) (a2 : Int) (r : Bool) (w : World) (h : impl_within.f a0 a1 a2 = some r) :
    Calls Tryd.prog 76 #[.int .i64 a0, .int .i64 a1, .int .i64 a2] w fun e w' => e = .returned (.bool r) ∧ Drawn0 w w' := by
 (have H : (if a0 ≥ a1 then (some (decide (a0 ≤ a2))) else (some false)) = some r := h); clear h; (by_cases c4 : a0 ≥ a1)
 ·(rw [if_pos c4] at H); (have c4b0 : decide (a1 ≤ a0) = true := decide_eq_true c4); clear c4; (obtain rfl := Option.some.inj H); (go_enter Tryd.func76, Tryd.ntmps76); go_wp2; go_ret; (exact ⟨by first | rfl | (simp; done) | (simp [*]; done), by repeat (first | exact Drawn0.refl _ | apply Drawn0.step)⟩)
 ·(rw [if_neg c4] at H); (have c4b0 : decide (a1 ≤ a0) = false := decide_eq_false c4); clear c4; (obtain rfl := Option.some.inj H); (go_enter Tryd.func76, Tryd.ntmps76); go_wp2; go_ret; (exact ⟨by first | rfl | (simp; done) | (simp [*]; done), by repeat (first | exact Drawn0.refl _ | apply Drawn0.step)⟩)
end Go.Proofs.YtoglcgnbkibpgaaDoor.A

namespace Go.Proofs.YtoglcgnbkibpgaaDoor.A
open Go.RowKit Go.Proofs.YtoglcgnbkibpgaaDoorW.PrintWords Go.Proofs.YtoglcgnbkibpgaaDoorW.PrintLast Go.Proofs.YtoglcgnbkibpgaaDoorW.PrintMore
attribute [local go_sem] max2_int min2_int max_two min_two max_three min_three max_four min_four   -- for this text's walks alone
set_option linter.unusedVariables false
set_option linter.unusedSimpArgs false
def impl_isIncreasing.l0 : Nat → List Int → Int → List Int → Int → Int → Option (Bool)
  | 0, _, _, _, _, _ => none
  | k + 1, x0, x1, x7, x8, x9 => if x9 < x8 then (if 0 ≤ x9 then (if x9 < (x7.length : Int) then ((impl_within.f (rd x7 x9) 0 (wrap64 (x1 - 1))).bind fun t421 => (if t421 = true then (if x9 > 0 then (if 0 ≤ (wrap64 (x9 - 1)) then (if (wrap64 (x9 - 1)) < (x0.length : Int) then (if (rd x7 x9) ≤ (rd x0 (wrap64 (x9 - 1))) then (some false) else (impl_isIncreasing.l0 k x0 x1 x7 x8 (wrap64 (x9 + 1)))) else (none)) else (none)) else (impl_isIncreasing.l0 k x0 x1 x7 x8 (wrap64 (x9 + 1)))) else (some false))) else (none)) else (none)) else (some true)
def impl_isIncreasing.f (k : Nat) (l0 : List Int) (a1 : Int) : Option (Bool) := impl_isIncreasing.l0 k l0 a1 l0 (l0.length : Int) 0
set_option maxHeartbeats 8000000 in
set_option maxRecDepth 100000 in
theorem impl_isIncreasing.calls (k : Nat) (A0 : Option Addr) (c0 : Nat) (l0 : List Int) (a1 : Int) (r : Bool) (w : World) (hr0 : Kd.C (Kd.int .i64) w A0 l0.length l0) (hc0 : l0.length ≤ c0) (h : impl_isIncreasing.f k l0 a1 = some r) :
    Calls Tryd.prog 59 #[.slice A0 l0.length c0, .int .i64 a1] w fun e w' => e = .returned (.bool r) ∧ Drawn0 w w' := by
 (have HR0 := A0_ hr0); (have HC0 := A0_ hc0); clear hr0 hc0; (have H : (impl_isIncreasing.l0 k l0 a1 l0 (l0.length : Int) 0) = some r := h); clear h; (have H' := A0_ H); clear H; (go_enter Tryd.func59, Tryd.ntmps59); go_wp2
 go_loopg [9] k (fun kq v9 w' => ∃ (x9_1 : Int), v9 = .int .i64 x9_1 ∧ Aside0 (impl_isIncreasing.l0 kq l0 a1 l0 (l0.length : Int) x9_1 = some r) ∧ Aside0 (kq ≤ k) ∧ Drawn0 w w')
 case atStart => exact ⟨(0), (by first | rfl | (simp; done) | (simp [*]; done)), H', ⟨Nat.le_refl _⟩, by repeat (first | exact Drawn0.refl _ | apply Drawn0.step)⟩
 case round =>
  clear H'; (try clear p2); (obtain ⟨x9_1, rfl, HA, HK1, ⟨m1, rfl⟩⟩ := hrel)
  cases gk with
  | zero => exact absurd HA.out (by simp [impl_isIncreasing.l0])
  | succ k1 =>
   (have H := HA.out); clear HA; (simp only [impl_isIncreasing.l0] at H); (by_cases c3 : x9_1 < (l0.length : Int))
   ·(rw [if_pos c3] at H); (have c3b0 : decide (x9_1 < (l0.length : Int)) = true := decide_eq_true c3); clear c3; (by_cases c4 : 0 ≤ x9_1)
    ·(rw [if_pos c4] at H); (have c4b0 : decide (0 ≤ x9_1) = true := decide_eq_true c4); clear c4; (by_cases c5 : x9_1 < (l0.length : Int))
     ·(rw [if_pos c5] at H); (have c5b0 : decide (x9_1 < (l0.length : Int)) = true := decide_eq_true c5); clear c5; (replace H := Option.bind_eq_some_iff.mp H); (obtain ⟨t421, A60, H⟩ := H); (try dsimp only at H); (have A6 := A0_ A60); clear A60; (have H0_ := A0_ H); clear H; (have p420 : 0 ≤ (x9_1 : Int) := of_decide_eq_true (by first | (with_reducible assumption) | assumption)); (have q420 : x9_1 < (l0.length : Int) := of_decide_eq_true (by first | (with_reducible assumption) | assumption)); (obtain ⟨ad420, e420, hx420_0⟩ := Kd.at_int HR0.out x9_1 p420 q420); (cases e420); (replace p420 := eq_true p420); (replace q420 := eq_true q420); (go_wp2_with (first | ((with_reducible refine gate_callee (f := 76) rfl ?_); refine goesL_ (some 17) rfl rfl Tryd.func76 (by kernel_rfl) rfl #[.int .i64 (rd l0 x9_1), .int .i64 0, .int .i64 (wrap64 (a1 - 1))] rfl (by (try simp only [List.map_toArray, List.map_cons, List.map_nil]); first | done | rfl | (simp only [List.length_drop, List.length_take]; rfl)) ?_; (with_reducible refine (impl_within.calls (rd l0 x9_1) 0 (wrap64 (a1 - 1)) t421 _ A6.out).mono ?_); rintro e w' ⟨rfl, ⟨nd, rfl⟩⟩; refine ⟨_, rfl, ?_⟩; refine Stop0.out ?_))); (refine Stop0.mk ?_); (have H := H0_.out); clear H0_; (by_cases c7 : t421 = true)
      ·subst c7; (have H1 := H); (rw [if_pos rfl] at H1); clear H; (have H := H1); clear H1; (by_cases c8 : x9_1 > 0)
       ·(rw [if_pos c8] at H); (have c8b0 : decide (0 < x9_1) = true := decide_eq_true c8); clear c8; (obtain ⟨ji9, hji9⟩ : ∃ j_ : Int, (wrap64 (x9_1 - 1)) = j_ := ⟨_, rfl⟩); (replace H : (if 0 ≤ (ji9) then (if (ji9) < (l0.length : Int) then (if (rd l0 x9_1) ≤ (rd l0 (ji9)) then (some false) else (impl_isIncreasing.l0 k1 l0 a1 l0 (l0.length : Int) (wrap64 (x9_1 + 1)))) else (none)) else (none)) = some r := by first | (rw [hji9] at H; exact H) | (simp only [hji9] at H ⊢; exact H)); (have hji9w : (IntKind.i64.wrap (x9_1 - 1)) = ji9 := (i64_w _).trans hji9); (by_cases c10 : 0 ≤ (ji9))
        ·(rw [if_pos c10] at H); (have c10b0 : decide (0 ≤ (ji9)) = true := decide_eq_true c10); clear c10; (by_cases c11 : (ji9) < (l0.length : Int))
         ·(rw [if_pos c11] at H); (have c11b0 : decide ((ji9) < (l0.length : Int)) = true := decide_eq_true c11); clear c11; (by_cases c12 : (rd l0 x9_1) ≤ (rd l0 (ji9)))
          ·(rw [if_pos c12] at H); (have c12b0 : decide ((rd l0 x9_1) ≤ (rd l0 (ji9))) = true := decide_eq_true c12); clear c12; (obtain rfl := Option.some.inj H); (have p422 : 0 ≤ ((ji9) : Int) := of_decide_eq_true (by first | (with_reducible assumption) | assumption)); (have q422 : (ji9) < (l0.length : Int) := of_decide_eq_true (by first | (with_reducible assumption) | assumption)); (obtain ⟨ad422, e422, hx422_0⟩ := Kd.at_int HR0.out (ji9) p422 q422); (cases e422); (replace p422 := eq_true p422); (replace q422 := eq_true q422); go_wp2; go_ret; (exact ⟨by first | rfl | (simp; done) | (simp only [← hji9] <;> (first | rfl | simp)) | (simp [*]; done), by repeat (first | exact Drawn0.refl _ | apply Drawn0.step)⟩)
          ·(rw [if_neg c12] at H); (have c12b0 : decide ((rd l0 x9_1) ≤ (rd l0 (ji9))) = false := decide_eq_false c12); clear c12; (have H' := A0_ H); clear H; (have p422 : 0 ≤ ((ji9) : Int) := of_decide_eq_true (by first | (with_reducible assumption) | assumption)); (have q422 : (ji9) < (l0.length : Int) := of_decide_eq_true (by first | (with_reducible assumption) | assumption)); (obtain ⟨ad422, e422, hx422_0⟩ := Kd.at_int HR0.out (ji9) p422 q422); (cases e422); (replace p422 := eq_true p422); (replace q422 := eq_true q422); go_wp2; (go_roundg k1)
           case measure => have := HK1.out; omega
           case rel => exact ⟨(wrap64 (x9_1 + 1)), (by first | rfl | (simp; done) | (simp [*]; done)), H', ⟨by have := HK1.out; omega⟩, by repeat (first | exact Drawn0.refl _ | apply Drawn0.step)⟩
         ·(rw [if_neg c11] at H); (exact absurd H (by simp))
        ·(rw [if_neg c10] at H); (exact absurd H (by simp))
       ·(rw [if_neg c8] at H); (have c8b0 : decide (0 < x9_1) = false := decide_eq_false c8); clear c8; (have H' := A0_ H); clear H; go_wp2; (go_roundg k1)
        case measure => have := HK1.out; omega
        case rel => exact ⟨(wrap64 (x9_1 + 1)), (by first | rfl | (simp; done) | (simp [*]; done)), H', ⟨by have := HK1.out; omega⟩, by repeat (first | exact Drawn0.refl _ | apply Drawn0.step)⟩
      ·(replace c7 := Bool.eq_false_iff.mpr c7); subst c7; (have H1 : (some false) = some r := by rw [if_neg (show ¬ (false = true) by decide)] at H; exact H); clear H; (have H := H1); clear H1; (obtain rfl := Option.some.inj H); go_wp2; go_ret; (exact ⟨by first | rfl | (simp; done) | (simp [*]; done), by repeat (first | exact Drawn0.refl _ | apply Drawn0.step)⟩)
     ·(rw [if_neg c5] at H); (exact absurd H (by simp))
    ·(rw [if_neg c4] at H); (exact absurd H (by simp))
   ·(rw [if_neg c3] at H); (have c3b0 : decide (x9_1 < (l0.length : Int)) = false := decide_eq_false c3); clear c3; (obtain rfl := Option.some.inj H); go_wp2; go_ret; (exact ⟨by first | rfl | (simp; done) | (simp [*]; done), by repeat (first | exact Drawn0.refl _ | apply Drawn0.step)⟩)
end Go.Proofs.YtoglcgnbkibpgaaDoor.A

/- impl.IsCover: the program's guard, in plain words and walked (slices.ContainsFunc over a function literal that holds the instance). -/
namespace Go.Proofs.YtoglcgnbkibpgaaDoor.A
open Go.RowKit Go.Proofs.YtoglcgnbkibpgaaDoorW.PrintWords Go.Proofs.YtoglcgnbkibpgaaDoorW.PrintLast Go.Proofs.YtoglcgnbkibpgaaDoorW.PrintMore Go.Proofs.YtoglcgnbkibpgaaDoorW.Cov
set_option linter.unusedVariables false
set_option linter.unusedSimpArgs false
theorem within_eq (a b c : Int) : impl_within.f a b c = some (inB a b c) := by
  unfold impl_within.f inB
  by_cases h : a ≥ b
  · rw [if_pos h]; simp; omega
  · rw [if_neg h]; simp; omega
theorem isInc_ev (r : List Int) (c : Int) (h : r.length ≤ 1048576) (h0 : -1 ≤ c) (h1 : c ≤ 1048576) : Ev (fun k => impl_isIncreasing.f k r c) (risesF c none r) := by
  unfold impl_isIncreasing.f
  have := ev_listI r (fun (s : Option Int) j => s = if j = 0 then none else r[j - 1]?) (fun _ i k => impl_isIncreasing.l0 k r c r (r.length : Int) i) (fun s l => risesF c s l) (fun s hi => ?_) (fun s j hj hi ih => ?_) r.length 0 none (by omega) rfl
  · simpa using this
  · exact Ev.step (f := fun _ => some true) (fun k => by simp only [impl_isIncreasing.l0]; rw [if_neg (by omega)]) (Ev.now _)
  · have e1 : wrap64 (c - 1) = c - 1 := by unfold wrap64; omega
    have hn := ih (some r[j]) (by rw [if_neg (by omega)]; simp [hj])
    refine Ev.succ ?_
    simp only [impl_isIncreasing.l0, show (j : Int) < (r.length : Int) from by omega, show (0 : Int) ≤ (j : Int) from by omega, if_true, rd_nat r j hj, e1, within_eq, Option.bind_some, wrap_succ j (by omega)]
    unfold risesF
    cases hb : inB r[j] 0 (c - 1) with
    | false => simpa using Ev.now false
    | true =>
      simp only [if_true, Bool.true_and]
      by_cases hz : j = 0
      · subst hz
        rw [hi, if_pos rfl]
        simpa using hn
      · rw [if_neg hz] at hi
        have hj1 : j - 1 < r.length := by omega
        have hs : s = some r[j - 1] := by rw [hi]; simp [hj1]
        have ew : wrap64 ((j : Int) - 1) = ((j - 1 : Nat) : Int) := by unfold wrap64; omega
        simp only [show (j : Int) > 0 from by omega, if_true, ew, show (0 : Int) ≤ ((j - 1 : Nat) : Int) from by omega, show ((j - 1 : Nat) : Int) < (r.length : Int) from by omega, rd_nat r (j - 1) hj1]
        rw [hs]
        by_cases hc : r[j] ≤ r[j - 1]
        · simp only [hc, if_true, decide_eq_false (show ¬ r[j - 1] < r[j] from by omega), Bool.false_and]
          exact Ev.now false
        · simp only [hc, if_false, decide_eq_true (show r[j - 1] < r[j] from by omega), Bool.true_and]
          exact hn
/-- The literal: is a row none of an instance's? -/
theorem impl_IsCover.lit (C : Int) (hC : inB C 1 60 = true) (r : List Int) (hz : r.length ≤ 1048576) (g : Nat) (x1 x2 : Value) (A : Option Addr) (c : Nat) (w : World) (hR : kI.C w A r.length r) (hc : r.length ≤ c) (hcell : w.cell? ⟨g, 0, none⟩ = some (.int .i64 C)) :
    Calls Tryd.prog 78 #[.slice A r.length c, .pointer (some ⟨g, 0, none⟩)] w fun e w' => e = .returned (.bool (!rowOk C r)) ∧ Below w.heap.size w w' := by
  obtain ⟨K, hK⟩ := (isInc_ev r C hz (by have := (inB_iff _ _ _).1 hC; omega) (by have := (inB_iff _ _ _).1 hC; omega)).rounds
  have HK := A0_ hK
  have HR := A0_ hR
  clear hR hK
  by_cases e : r.length = 0
  · obtain rfl := List.length_eq_zero_iff.1 e
    have he : rowOk C [] = false := rfl
    rw [he]
    go_enter Tryd.func78, Tryd.ntmps78
    go_wp2
    go_ret
    exact ⟨rfl, Below.refl _ _⟩
  · have he : rowOk C r = risesF C none r := by
      unfold rowOk
      cases r with
      | nil => simp at e
      | cons x xs => simp
    rw [he]
    have e0 : (((r.length : Nat) : Int) == 0) = false := by rw [beq_eq_false_iff_ne]; omega
    clear he e
    go_enter Tryd.func78, Tryd.ntmps78
    go_wp2_with (first
      | (go_at_call 59; refine (impl_isIncreasing.calls K A c r C (risesF C none r) _ HR.out hc HK.out).mono ?_; rintro e w1 ⟨rfl, hb⟩; have HB := A0_ hb.below; clear hb))
    go_ret
    exact ⟨rfl, HB.out⟩
set_option maxHeartbeats 1000000 in
set_option maxRecDepth 100000 in
theorem impl_IsCover.index (C : Int) (hC : inB C 1 60 = true) (rows : List (List Int)) (hl : rows.length ≤ 1048576) (hz : ∀ r ∈ rows, r.length ≤ 1048576) (g : Nat) (A0 : Option Addr) (c0 : Nat) (w : World) (hr0 : kL.C w A0 rows.length rows) (hcell : w.cell? ⟨g, 0, none⟩ = some (.int .i64 C)) :
    Calls Tryd.prog 88 #[.slice A0 rows.length c0, .func (.func 78) #[] #[.pointer (some ⟨g, 0, none⟩)]] w fun e w' => ∃ r : Int, e = .returned (.int .i64 r) ∧ decide (0 ≤ r) = !(rows.all (rowOk C)) ∧ Below w.heap.size w w' := by
  have HR0 := Aside0.mk hr0
  have HL := Aside0.mk hl
  have HC0 := Aside0.mk hcell
  have HCC := Aside0.mk hC
  clear hr0 hcell hl hC
  go_enter Tryd.func88, Tryd.ntmps88
  go_wp2
  go_loopg [8] (rows.length + 1) (fun kq v8 w' => ∃ x : Int, v8 = .int .i64 x ∧ Aside0 (0 ≤ x ∧ x ≤ rows.length ∧ kq + x.toNat = rows.length + 1 ∧ (rows.take x.toNat).all (rowOk C) = true) ∧ Aside0 (Below w.heap.size w w'))
  case atStart => exact ⟨0, rfl, ⟨by omega, by omega, by simp, by simp⟩, ⟨Below.refl _ _⟩⟩
  case round =>
    obtain ⟨x, rfl, HX, HB⟩ := hrel
    obtain ⟨h0, h1, h2, h3⟩ := HX.out
    by_cases c : x < (rows.length : Int)
    · have c0 : decide (x < (rows.length : Int)) = true := decide_eq_true c
      have c1 : (0 ≤ x) = True := eq_true h0
      have hlt : x.toNat < rows.length := by omega
      obtain ⟨ad, Ar, cr, e, hx0, hx1, hx2⟩ := at_L1 HR0.out x h0 c
      cases e
      replace hx0 := pw_cell_below HB.out hx0
      have HXR := Aside0.mk (Kd.C_below hx2 HB.out)
      have HXC := Aside0.mk hx1
      have e : rd_L1 rows x = rows[x.toNat] := by unfold rd_L1; simp [hlt]
      have HE := Aside0.mk e
      have HZ := Aside0.mk (show (rd_L1 rows x).length ≤ 1048576 from e ▸ hz _ (List.getElem_mem hlt))
      have HCE := Aside0.mk (pw_cell_below HB.out HC0.out)
      obtain ⟨k1, rfl⟩ : ∃ k1, gk = k1 + 1 := ⟨gk - 1, by omega⟩
      have hw : wrap64 (x + 1) = x + 1 := by have := HL.out; unfold wrap64; omega
      have HW := Aside0.mk hw
      clear hw hx1 hx2 e
      have HN := Aside0.mk h3
      have HT := Aside0.mk h2
      have c2 := eq_true c
      clear h3 h2 HX c
      go_wp2_with (go_at_call 78; refine (impl_IsCover.lit C HCC.out (rd_L1 rows x) HZ.out g (.bool true) (.bool true) Ar cr _ HXR.out HXC.out HCE.out).mono ?_; rintro e w' ⟨rfl, hb⟩)
      · go_ret
        refine ⟨x, rfl, ?_, below_step HB.out hb⟩
        rw [decide_eq_true h0]
        refine Eq.symm ?_
        rw [Bool.not_eq_true', Bool.eq_false_iff]
        intro ha
        have := List.all_eq_true.1 ha rows[x.toNat] (List.getElem_mem hlt)
        rw [← HE.out] at this
        simp_all
      · go_roundg k1
        case measure => omega
        case rel =>
          refine ⟨_, rfl, ⟨?_⟩, ⟨below_step HB.out hb⟩⟩
          rw [HW.out]
          have e2 : (x + 1).toNat = x.toNat + 1 := by omega
          have hp : rowOk C (rd_L1 rows x) = true := by simp_all
          refine ⟨by omega, by omega, by have := HT.out; omega, ?_⟩
          rw [e2, List.take_succ_eq_append_getElem hlt, List.all_append, HN.out, ← HE.out, List.all_cons, hp]
          rfl
    · have c0 : decide (x < (rows.length : Int)) = false := decide_eq_false c
      have hx := Aside0.mk (show x = (rows.length : Int) by omega)
      have HN := Aside0.mk h3
      clear h3 h2 HX c
      go_wp2
      go_ret
      refine ⟨-1, rfl, ?_, HB.out⟩
      have := HN.out
      rw [hx.out, Int.toNat_natCast, List.take_length] at this
      rw [this]
      rfl
set_option maxHeartbeats 400000 in
theorem impl_IsCover.contains (C : Int) (hC : inB C 1 60 = true) (rows : List (List Int)) (hl : rows.length ≤ 1048576) (hz : ∀ r ∈ rows, r.length ≤ 1048576) (g : Nat) (A0 : Option Addr) (c0 : Nat) (w : World) (hr0 : kL.C w A0 rows.length rows) (hcell : w.cell? ⟨g, 0, none⟩ = some (.int .i64 C)) :
    Calls Tryd.prog 77 #[.slice A0 rows.length c0, .func (.func 78) #[] #[.pointer (some ⟨g, 0, none⟩)]] w fun e w' => e = .returned (.bool (!(rows.all (rowOk C)))) ∧ Below w.heap.size w w' := by
  have HR0 := Aside0.mk hr0
  have HC0 := Aside0.mk hcell
  clear hr0 hcell
  go_enter Tryd.func77, Tryd.ntmps77
  go_wp2_with (go_at_call 88; refine (impl_IsCover.index C hC rows hl hz g _ _ _ HR0.out HC0.out).mono ?_; rintro e w' ⟨r, rfl, hr, hb⟩; have HR := Aside0.mk hr; clear hr)
  go_ret
  exact ⟨by rw [← HR.out]; rfl, hb⟩
/-- The program's guard is the reference's. -/
def impl_IsCover.f (k : Nat) (C Q : Int) (rows : List (List Int)) : Option Bool := if sizesOk rows then some (coverOk C Q rows) else none
set_option maxHeartbeats 1000000 in
set_option maxRecDepth 100000 in
theorem impl_IsCover.calls (k : Nat) (C Q : Int) (A : Option Addr) (c : Nat) (rows : List (List Int)) (r : Bool) (w : World) (hR : kL.C w A rows.length rows) (hc : rows.length ≤ c) (h : impl_IsCover.f k C Q rows = some r) :
    Calls Tryd.prog 49 #[.agg #[.int .i64 C, .int .i64 Q, .slice A rows.length c]] w fun e w' => e = .returned (.bool r) ∧ Below w.heap.size w w' := by
  unfold impl_IsCover.f at h
  split at h
  case isFalse => cases h
  rename_i hz
  obtain rfl := Option.some.inj h
  clear h
  have HZ := A0_ hz
  clear hz
  have HB0 := A0_ (below_alloc (Below.refl w.heap.size w) (.cells #[.int .i64 C, .int .i64 Q, .slice A rows.length c] 28))
  have hc0 : ∀ j, j < 3 → (w.alloc (.cells #[.int .i64 C, .int .i64 Q, .slice A rows.length c] 28)).cell? ⟨w.heap.size, j, none⟩ = #[Value.int .i64 C, .int .i64 Q, .slice A rows.length c][j]? := fun j _ => blk_cell (blk_new w _) j
  have HC0 := A0_ hc0
  clear hc0
  have HR := A0_ (Kd.C_below hR HB0.out)
  clear hR
  unfold coverOk
  obtain ⟨K, hK⟩ : ∃ K, K = 0 := ⟨0, rfl⟩
  have hw1 : ∀ w', Drawn0 w' w' := fun _ => Drawn0.refl _
  clear hw1 hK
  by_cases c1 : inB C 1 60 = true
  · have C1 := A0_ c1
    have e1 := c1
    by_cases c2 : inB Q 1 C = true
    · have e2 := c2
      rw [c1, c2]
      clear c1 c2
      have E1 := A0_ e1
      have E2 := A0_ e2
      clear e1 e2
      by_cases c3 : rows.length ≤ 400
      · rw [decide_eq_true c3]
        have c3' : decide ((400 : Int) < (rows.length : Int)) = false := decide_eq_false (by omega)
        clear c3
        go_enter Tryd.func49, Tryd.ntmps49
        go_wp2_with (first
          | (go_at_call 76; refine (impl_within.calls _ _ _ _ _ (within_eq _ _ _)).mono ?_; (first | rw [E1.out] | rw [E2.out]); rintro e w1 ⟨rfl, ⟨m, rfl⟩⟩)
          | (go_at_call 77; refine (impl_IsCover.contains C C1.out rows HZ.out.1 HZ.out.2 w.heap.size A c _ ?ra ?rb).mono ?_; (case ra => exact Kd.C_below HR.out (by repeat (first | exact Below.refl _ _ | refine pw_below_drewN ?_ _))); (case rb => exact pw_cell_below (by repeat (first | exact Below.refl _ _ | refine pw_below_drewN ?_ _)) (HC0.out 0 (by decide))); rintro e w1 ⟨rfl, hb⟩; have HB := A0_ hb; clear hb))
        go_ret
        exact ⟨by simp, below_step (by repeat (first | exact HB0.out | refine pw_below_drewN ?_ _)) HB.out⟩
      · rw [decide_eq_false c3]
        have c3' : decide ((400 : Int) < (rows.length : Int)) = true := decide_eq_true (by omega)
        clear c3
        go_enter Tryd.func49, Tryd.ntmps49
        go_wp2_with (first
          | (go_at_call 76; refine (impl_within.calls _ _ _ _ _ (within_eq _ _ _)).mono ?_; (first | rw [E1.out] | rw [E2.out]); rintro e w1 ⟨rfl, ⟨m, rfl⟩⟩)
          | (go_at_call 77; refine (impl_IsCover.contains C C1.out rows HZ.out.1 HZ.out.2 w.heap.size A c _ ?ra ?rb).mono ?_; (case ra => exact Kd.C_below HR.out (by repeat (first | exact Below.refl _ _ | refine pw_below_drewN ?_ _))); (case rb => exact pw_cell_below (by repeat (first | exact Below.refl _ _ | refine pw_below_drewN ?_ _)) (HC0.out 0 (by decide))); rintro e w1 ⟨rfl, hb⟩; have HB := A0_ hb; clear hb))
        go_ret
        exact ⟨by simp, by repeat (first | exact HB0.out | refine pw_below_drewN ?_ _)⟩
    · have e2 := Bool.eq_false_iff.2 c2
      rw [c1, Bool.eq_false_iff.2 c2]
      clear c1 c2
      have E1 := A0_ e1
      have E2 := A0_ e2
      clear e1 e2
      go_enter Tryd.func49, Tryd.ntmps49
      go_wp2_with (first
        | (go_at_call 76; refine (impl_within.calls _ _ _ _ _ (within_eq _ _ _)).mono ?_; (first | rw [E1.out] | rw [E2.out]); rintro e w1 ⟨rfl, ⟨m, rfl⟩⟩)
        | (go_at_call 77; refine (impl_IsCover.contains C C1.out rows HZ.out.1 HZ.out.2 w.heap.size A c _ ?ra ?rb).mono ?_; (case ra => exact Kd.C_below HR.out (by repeat (first | exact Below.refl _ _ | refine pw_below_drewN ?_ _))); (case rb => exact pw_cell_below (by repeat (first | exact Below.refl _ _ | refine pw_below_drewN ?_ _)) (HC0.out 0 (by decide))); rintro e w1 ⟨rfl, hb⟩; have HB := A0_ hb; clear hb))
      go_ret
      exact ⟨by simp, by repeat (first | exact HB0.out | refine pw_below_drewN ?_ _)⟩
  · have e1 := Bool.eq_false_iff.2 c1
    rw [Bool.eq_false_iff.2 c1]
    clear c1
    have E1 := A0_ e1
    have E2 := A0_ e1
    clear e1
    go_enter Tryd.func49, Tryd.ntmps49
    go_wp2_with (first
      | (go_at_call 76; refine (impl_within.calls _ _ _ _ _ (within_eq _ _ _)).mono ?_; (first | rw [E1.out] | rw [E2.out]); rintro e w1 ⟨rfl, ⟨m, rfl⟩⟩)
      | (go_at_call 77; refine (impl_IsCover.contains C C1.out rows HZ.out.1 HZ.out.2 w.heap.size A c _ ?ra ?rb).mono ?_; (case ra => exact Kd.C_below HR.out (by repeat (first | exact Below.refl _ _ | refine pw_below_drewN ?_ _))); (case rb => exact pw_cell_below (by repeat (first | exact Below.refl _ _ | refine pw_below_drewN ?_ _)) (HC0.out 0 (by decide))); rintro e w1 ⟨rfl, hb⟩; have HB := A0_ hb; clear hb))
    go_ret
    exact ⟨by simp, by repeat (first | exact HB0.out | refine pw_below_drewN ?_ _)⟩
end Go.Proofs.YtoglcgnbkibpgaaDoor.A

/- math/bits.TrailingZeros64, as the program calls it: the table lies in the program's first variable. -/
namespace Go.Proofs.YtoglcgnbkibpgaaDoor.A
open Go.RowKit
set_option linter.unusedVariables false
set_option maxHeartbeats 1000000 in
theorem tz_core (x k idx : Nat) (w : World) (hx0 : ((x : Int) == 0) = false)
    (key : IntKind.u64.wrap (bits BinOp.and IntKind.u64 (x : Int) (IntKind.u64.wrap (-(x : Int))) * 285870213051353865) / 288230376151711744 = (idx : Int))
    (hi : idx < 64) (hk : k < 64) (hcell : w.cell? ⟨0, idx, none⟩ = some (.int .u8 k)) :
    Calls Tryd.prog 83 #[.int .u64 x] w fun e w' => e = .returned (.int .i64 k) ∧ w' = w := by
  go_enter Tryd.func83, Tryd.ntmps83
  go_wp2_with (simp only [key])
  go_ret
  exact ⟨rfl, rfl⟩
theorem tz_calls (x : Nat) (hx : x < 18446744073709551616) (hx0 : x ≠ 0) (w : World) (hT : TabAt 0 Lib.deBruijn64tab w) :
    Calls Tryd.prog 83 #[.int .u64 x] w fun e w' => e = .returned (.int .i64 (Lib.ctz 64 x : Nat)) ∧ w' = w := by
  obtain ⟨hlow, hk⟩ := Lib.lowest_bit 64 x hx0 hx
  obtain ⟨hi, htab⟩ := Lib.deBruijn64_at _ hk
  have hcell := hT _ hi
  rw [htab] at hcell
  exact tz_core x _ _ w (by simp; omega) (tz64_key x _ hx hx0 hlow) hi hk hcell
end Go.Proofs.YtoglcgnbkibpgaaDoor.A

/- Words of 64 bits as the program's search uses them: no program in sight but the types' numbers. -/
namespace Go.Proofs.YtoglcgnbkibpgaaDoor.A
open Go.RowKit Go.Proofs.YtoglcgnbkibpgaaDoorW.PrintWords Go.Proofs.YtoglcgnbkibpgaaDoorW.PrintLast Go.Proofs.YtoglcgnbkibpgaaDoorW.PrintMore Go.Proofs.YtoglcgnbkibpgaaDoorW.Cov
set_option linter.unusedVariables false
abbrev kU : Kd Int := Kd.int .u64
theorem info62 : (Tryd.prog.info? 62).map (fun i => (i.zero, i.size, i.bytes)) = some (some (.int .u64 0), 1, 8) := by kernel_rfl
theorem two64 : (2 : Nat) ^ 64 = 18446744073709551616 := by decide
theorem shl1 (q : Int) (h0 : 0 ≤ q) (h1 : q < 64) : IntKind.u64.wrap (2 ^ min (IntKind.u64.wrap q).toNat 64) = ((2 ^ q.toNat : Nat) : Int) := by
  have e : IntKind.u64.wrap q = q := by rw [IntKind.wrap_u64]; omega
  have hq : q.toNat < 64 := by omega
  have hp : 2 ^ q.toNat < 2 ^ 64 := Nat.pow_lt_pow_right (by decide) hq
  rw [two64] at hp
  rw [e, IntKind.wrap_u64, Nat.min_eq_left (by omega), show ((2 : Int) ^ q.toNat) = ((2 ^ q.toNat : Nat) : Int) from by simp]
  generalize 2 ^ q.toNat = x at *
  omega
theorem req1 (q : Int) (h0 : 0 ≤ q) (h1 : q < 64) : IntKind.u64.wrap (IntKind.u64.wrap (2 ^ min (IntKind.u64.wrap q).toNat 64) - 1) = ((2 ^ q.toNat - 1 : Nat) : Int) := by
  rw [shl1 q h0 h1, IntKind.wrap_u64]
  have hq : q.toNat < 64 := by omega
  have hp : 2 ^ q.toNat < 2 ^ 64 := Nat.pow_lt_pow_right (by decide) hq
  have hz : 0 < 2 ^ q.toNat := Nat.two_pow_pos _
  rw [two64] at hp
  generalize 2 ^ q.toNat = x at *
  omega
theorem shl1' (q : Int) (h0 : 0 ≤ q) (h1 : q < 64) : IntKind.u64.wrap (2 ^ q.toNat) = ((2 ^ q.toNat : Nat) : Int) := by
  have := shl1 q h0 h1
  have e : IntKind.u64.wrap q = q := by rw [IntKind.wrap_u64]; omega
  rwa [e, Nat.min_eq_left (by omega)] at this
theorem or_next (m : Nat) (k : Int) (hm : m < 2 ^ 60) (h0 : 0 ≤ k) (h1 : k < 60) : bits .or .u64 (m : Int) (IntKind.u64.wrap (2 ^ k.toNat)) = ((m ||| 2 ^ k.toNat : Nat) : Int) ∧ m ||| 2 ^ k.toNat < 2 ^ 60 := by
  have hk : k.toNat < 60 := by omega
  have hp : 2 ^ k.toNat < 2 ^ 60 := Nat.pow_lt_pow_right (by decide) hk
  have : (2 : Nat) ^ 60 < 18446744073709551616 := by decide
  refine ⟨?_, Nat.or_lt_two_pow hm hp⟩
  rw [shl1' k h0 (by omega), u64_or_nat _ _ (by omega) (by omega)]
/-- The masks of the rows, as the program holds them. -/
def masksI (rows : List (List Int)) : List Int := rows.map fun r => ((maskOf r : Nat) : Int)
end Go.Proofs.YtoglcgnbkibpgaaDoor.A

/- impl.newCoverSearch, walked: the program's state with the masks of the rows. -/
namespace Go.Proofs.YtoglcgnbkibpgaaDoor.A
open Go.RowKit Go.Proofs.YtoglcgnbkibpgaaDoorW.PrintWords Go.Proofs.YtoglcgnbkibpgaaDoorW.PrintLast Go.Proofs.YtoglcgnbkibpgaaDoorW.PrintMore Go.Proofs.YtoglcgnbkibpgaaDoorW.Cov Go.Proofs.YtoglcgnbkibpgaaDoorW.Tree
set_option linter.unusedVariables false
set_option linter.unusedSimpArgs false
theorem masks_len (rows : List (List Int)) : (masksI rows).length = rows.length := by simp [masksI]
theorem masks_next (rows : List (List Int)) (i : Nat) (h : i < rows.length) : (masksI rows).take (i + 1) = (masksI rows).take i ++ [((maskOf rows[i] : Nat) : Int)] := by
  have : i < (masksI rows).length := by rw [masks_len]; exact h
  rw [List.take_succ_eq_append_getElem this]
  congr 2
  simp [masksI]
theorem mask_next (r : List Int) (j : Nat) (h : j < r.length) : maskOf (r.take (j + 1)) = maskOf (r.take j) ||| 2 ^ (r[j]).toNat := by
  unfold maskOf
  rw [List.take_succ_eq_append_getElem h, List.foldl_append]
  rfl
set_option maxHeartbeats 2000000 in
set_option maxRecDepth 100000 in
theorem impl_newCoverSearch.calls' {C Q : Int} {rows : List (List Int)} (h : CovOk C Q rows) (w0 : World) (A : Option Addr) (cA : Nat) (hR : Kd.C kL w0 A rows.length rows) (hcA : rows.length ≤ cA) (fn : Nat) (caps : Array Value) (rest : List Res) (w : World) (hs : Sp w0 rest w) :
    Calls Tryd.prog 50 #[.agg #[.int .i64 C, .int .i64 Q, .slice A rows.length cA], .func (.func fn) #[] caps] w fun e w' => ∃ (g : Nat) (Am : Option Addr) (cm : Nat), e = .returned (.pointer (some ⟨g, 0, none⟩)) ∧
      Sp w0 ([Res.blk g #[.slice Am rows.length cm, .int .u64 ((2 ^ Q.toNat - 1 : Nat) : Int), .int .i64 0, .slice none 0 0, .func (.func fn) #[] caps, .bool false, .bool false] 64, Res.row kU 62 w0.heap.size (.slice Am rows.length cm) (masksI rows)] ++ rest) w' := by
  have HQ := A0_ (show 0 ≤ Q ∧ Q < 64 from by have := h.q1; have := h.qc; have := h.c60; omega)
  have HQE := A0_ (req1 Q HQ.out.1 HQ.out.2)
  have HN := A0_ h.n400
  have HR := A0_ hR
  have HIN := A0_ (show ∀ r ∈ rows, ∀ x ∈ r, 0 ≤ x ∧ x < 60 from fun r hr x hx => by have := h.ins r hr x hx; have := h.c60; omega)
  have HLE := A0_ (show ∀ r ∈ rows, r.length ≤ 60 from fun r hr => by
    rcases pair_len C r 0 (h.up r hr) (h.ins r hr) with h1 | h1
    · have := h.c60; omega
    · rw [h1]; simp)
  have HS0 := A0_ hs
  have HS := A0_ (Sp.box (Sp.made (Sp.alloc hs (.cells #[.int .i64 C, .int .i64 Q, .slice A rows.length cA] 28)) (Below.refl _ _) (Kd.R_nil kU 62 _ w0.heap.size _)) #[.slice none 0 0, .int .u64 (IntKind.u64.wrap (IntKind.u64.wrap (2 ^ min (IntKind.u64.wrap Q).toNat 64) - 1)), .int .i64 0, .slice none 0 0, .func (.func fn) #[] caps, .bool false, .bool false] 64)
  obtain ⟨g, hg⟩ : ∃ g, g = ((w.alloc (.cells #[.int .i64 C, .int .i64 Q, .slice A rows.length cA] 28))).heap.size := ⟨_, rfl⟩
  rw [← hg] at HS
  have hg' : w.heap.size + 1 = g := by rw [hg]; simp
  clear hs hR hg h
  go_enter Tryd.func50, Tryd.ntmps50
  go_wp2
  rw [HQE.out] at HS ⊢
  try rw [hg']
  have HS_ := A0_ (show Sp w0 ([Res.blk g #[.slice none 0 0, .int .u64 ((2 ^ Q.toNat - 1 : Nat) : Int), .int .i64 0, .slice none 0 0, .func (.func fn) #[] caps, .bool false, .bool false] 64, Res.row kU 62 w0.heap.size (.slice none 0 0) ((masksI rows).take 0)] ++ rest) _ from HS.out)
  clear HS HS0
  have HS := HS_
  clear HS_
  go_loopg [22] (rows.length + 1) (fun kq v22 w' => ∃ (i : Nat) (Am : Option Addr) (cm : Nat), v22 = .int .i64 (i : Int) ∧ Aside0 (i ≤ rows.length ∧ kq + i = rows.length + 1) ∧ Aside0 (Sp w0 ([Res.blk g #[.slice Am i cm, .int .u64 ((2 ^ Q.toNat - 1 : Nat) : Int), .int .i64 0, .slice none 0 0, .func (.func fn) #[] caps, .bool false, .bool false] 64, Res.row kU 62 w0.heap.size (.slice Am i cm) ((masksI rows).take i)] ++ rest) w'))
  case atStart => exact ⟨0, none, 0, rfl, ⟨by omega, by omega⟩, HS⟩
  case round =>
    clear HS
    obtain ⟨i, Am, cm, rfl, HX, HS⟩ := hrel
    obtain ⟨k1, rfl⟩ : ∃ k1, gk = k1 + 1 := ⟨gk - 1, by have := HX.out; omega⟩
    by_cases c : i < rows.length
    · have c0 : decide (i < rows.length) = true := decide_eq_true c
      have c1 := eq_true c
      obtain ⟨ad, Ar, cr, e, hx0, hx1, hx2⟩ := at_L1 HR.out (i : Int) (by omega) (by omega)
      cases e
      have er : rd_L1 rows (i : Int) = rows[i] := by unfold rd_L1; simp [c]
      rw [er] at hx0 hx1 hx2
      obtain ⟨r, hr⟩ : ∃ r, r = rows[i] := ⟨_, rfl⟩
      rw [← hr] at hx0 hx1 hx2
      replace hx0 := pw_cell_below HS.out.below hx0
      rw [Int.toNat_natCast] at hx0
      have HRR := A0_ (Kd.C_below hx2 HS.out.below)
      have HMN := A0_ (show (masksI rows).take (i + 1) = (masksI rows).take i ++ [((maskOf r : Nat) : Int)] by rw [hr]; exact masks_next rows i c)
      have HI := A0_ (show ∀ x ∈ r, 0 ≤ x ∧ x < 60 from hr ▸ HIN.out _ (List.getElem_mem c))
      have HLR := A0_ (show r.length ≤ 60 from hr ▸ HLE.out _ (List.getElem_mem c))
      have HC := A0_ c
      have p0 : (0 ≤ (i : Int)) = True := eq_true (by omega)
      have p1 : ((i : Int) < (rows.length : Int)) = True := eq_true (by omega)
      clear c hx2 er hr hx1
      go_wp2
      go_loopg [8, 28] (r.length + 1) (fun kq v8 v28 w' => ∃ (j : Nat), v28 = .int .i64 (j : Int) ∧ v8 = .int .u64 ((maskOf (r.take j) : Nat) : Int) ∧ Aside0 (j ≤ r.length ∧ kq + j = r.length + 1 ∧ maskOf (r.take j) < 2 ^ 60) ∧ Aside0 (Sp w0 ([Res.blk g #[.slice Am i cm, .int .u64 ((2 ^ Q.toNat - 1 : Nat) : Int), .int .i64 0, .slice none 0 0, .func (.func fn) #[] caps, .bool false, .bool false] 64, Res.row kU 62 w0.heap.size (.slice Am i cm) ((masksI rows).take i)] ++ rest) w') ∧ Aside0 (kI.C w' Ar r.length r))
      case atStart => exact ⟨0, rfl, rfl, ⟨by omega, by omega, by simp [maskOf]⟩, HS, HRR⟩
      case round =>
        clear HS HRR
        obtain ⟨j, rfl, rfl, HJ, HS, HRR⟩ := hrel
        obtain ⟨k2, rfl⟩ : ∃ k2, gk = k2 + 1 := ⟨gk - 1, by have := HJ.out; omega⟩
        by_cases c2 : j < r.length
        · have c20 : decide (j < r.length) = true := decide_eq_true c2
          have c21 := eq_true c2
          obtain ⟨ad2, e2, hx⟩ := Kd.at_int HRR.out (j : Int) (by omega) (by omega)
          cases e2
          rw [rd_nat r j c2, Int.toNat_natCast] at hx
          obtain ⟨hxi0, hxi1⟩ := HI.out r[j] (List.getElem_mem c2)
          have HOR := A0_ (or_next (maskOf (r.take j)) r[j] HJ.out.2.2 hxi0 hxi1)
          have HMX := A0_ (mask_next r j c2)
          have HWJ := A0_ (wrap_succ j (by have := HLR.out; omega))
          have q0 : (0 ≤ (j : Int)) = True := eq_true (by omega)
          have q1 : ((j : Int) < (r.length : Int)) = True := eq_true (by omega)
          generalize r[j] = x at *
          generalize maskOf (r.take j) = m at *
          clear c2
          go_wp2
          go_roundg k2
          case measure => have := HJ.out; omega
          case rel =>
            rw [HWJ.out, HOR.out.1]
            exact ⟨j + 1, rfl, by rw [HMX.out], ⟨by have := of_decide_eq_true c20; omega, by have := HJ.out; omega, by rw [HMX.out]; exact HOR.out.2⟩, HS, HRR⟩
        · have c20 : decide (j < r.length) = false := decide_eq_false c2
          have hj := A0_ (show j = r.length by have := HJ.out; omega)
          have HWI := A0_ (wrap_succ i (by have := HN.out; have := HX.out; omega))
          have hg_ := (Sp.blk HS.out (i := 0) rfl).1
          have hy0 := (blk_cell hg_ 0).trans rfl
          have hz0 := blk_frozen hg_ 0
          clear c2 hg_
          have hjm : maskOf (r.take j) = maskOf r := by rw [hj.out, List.take_length]
          have HJM := A0_ hjm
          have HML := A0_ (show ((masksI rows).take (i + 1)).length = i + 1 by rw [List.length_take, masks_len]; have := HC.out; omega)
          rw [hjm]
          clear hjm
          go_wp2_with (first
            | ((with_reducible refine gate_builtin (b := .append) (xs := #[.tmp 42, .tmp 44]) rfl ?_); at_builtin; obtain ⟨fp_, ho_, hf_, hc_⟩ := Sp.row HS.out (i := 1) rfl;
               refine Kd.R_append kU (w0 := w0) w0.heap.size rfl (.tmp 42) (.tmp 44) 61 62 (.int .u64 0) 8 rfl Tryd.underlying61 info62 rfl (by decide) (by omega) (.slice Am i cm) ((masksI rows).take i) ((maskOf r : Nat) : Int) [.int .u64 ((maskOf r : Nat) : Int)] (fun k => fp_ k ∨ wr.heap.size ≤ k) (fun _ => False) rfl rfl rfl (fun _ hk => hk.elim) (fun _ h => .inr h) ho_ HS.out.below HS.out.below.size ?aL ?_;
               (case aL => rw [List.length_take, masks_len]; have := HN.out; omega);
               intro v1 w1 ho hb hg hat; rw [← HMN.out] at ho; have HS2 := A0_ (hc_ _ _ _ ho hg); clear ho hb hg hat hc_ hf_ ho_ hy0 hz0 HS HRR fp_; obtain ⟨Am2, cm2, e2⟩ := Sp.slice HS2.out (i := 1) rfl; subst e2; rw [HML.out] at HS2; (try rw [HML.out]);
               have hg_ := (Sp.blk HS2.out (i := 0) rfl).1; have hy0 := (blk_cell hg_ 0).trans rfl; have hz0 := blk_frozen hg_ 0; clear hg_))
          go_roundg k1
          case measure => omega
          case rel =>
            refine ⟨i + 1, Am2, cm2, by rw [HWI.out], ⟨by have := HC.out; omega, by have := HX.out; omega⟩, ⟨?_⟩⟩
            have hz := Sp.set HS2.out 0 rfl 0 (.slice Am2 (i + 1) cm2) (blk_put (cs' := #[.slice Am2 (i + 1) cm2, .int .u64 ((2 ^ Q.toNat - 1 : Nat) : Int), .int .i64 0, .slice none 0 0, .func (.func fn) #[] caps, .bool false, .bool false]) (Sp.blk HS2.out (i := 0) rfl).1 0 _ rfl)
            exact hz
    · have c0 : decide (i < rows.length) = false := decide_eq_false c
      have hi := A0_ (show i = rows.length by have := HX.out; omega)
      clear c
      go_wp2
      go_ret
      have hs := HS.out
      rw [hi.out] at hs
      rw [← masks_len rows, List.take_length] at hs
      exact ⟨g, Am, cm, rfl, by rw [masks_len] at hs; exact hs⟩
end Go.Proofs.YtoglcgnbkibpgaaDoor.A

/- The bits of a word from the lowest on, and the counting of open rows by columns: plain. -/
namespace Go.Proofs.YtoglcgnbkibpgaaDoorW.Cov
open Go.Proofs.YtoglcgnbkibpgaaDoorW.Tree
set_option linter.unusedVariables false
theorem low_bits (n : Nat) (h0 : n ≠ 0) (h : n < 2 ^ 64) : Lib.ctz 64 n < 64 ∧ n.testBit (Lib.ctz 64 n) = true ∧ (∀ k, k < Lib.ctz 64 n → n.testBit k = false) ∧ ∀ k, (n &&& (n - 1)).testBit k = (n.testBit k && decide (k ≠ Lib.ctz 64 n)) := by
  obtain ⟨m, hm, hk⟩ := Lib.ctzFrom_spec 64 n (by omega) h
  have e : Lib.ctz 64 n = Lib.ctzFrom 64 n := by simp [Lib.ctz, h0]
  rw [e]
  generalize Lib.ctzFrom 64 n = t at *
  have hz : 0 < 2 ^ t := Nat.two_pow_pos t
  have hb : ∀ k, n.testBit k = (decide (t ≤ k) && (2 * m + 1).testBit (k - t)) := fun k => by rw [hm, Nat.testBit_two_pow_mul]
  have h1 : n - 1 = 2 ^ t * (2 * m) + (2 ^ t - 1) := by rw [hm, Nat.mul_add]; omega
  have hb1 : ∀ k, (n - 1).testBit k = if k < t then (2 ^ t - 1).testBit k else (2 * m).testBit (k - t) := fun k => by rw [h1, Nat.testBit_two_pow_mul_add _ (by omega)]
  refine ⟨hk, ?_, ?_, fun k => ?_⟩
  · rw [hb]; simp
  · intro k hk; rw [hb, decide_eq_false (by omega), Bool.false_and]
  · rw [Nat.testBit_and, hb, hb1]
    by_cases c : k < t
    · rw [decide_eq_false (show ¬ t ≤ k by omega)]; simp
    · rw [if_neg c, decide_eq_true (show t ≤ k by omega)]
      by_cases c2 : k = t
      · subst c2; simp
      · obtain ⟨j, hj⟩ : ∃ j, k - t = j + 1 := ⟨k - t - 1, by omega⟩
        rw [hj, Nat.testBit_succ, Nat.testBit_succ, show (2 * m + 1) / 2 = m by omega, show 2 * m / 2 = m by omega]
        simp [c2]
theorem bits_zero : bitsOf 0 = [] := by unfold bitsOf; simp
theorem range_cut (t n : Nat) (h : t < n) : List.range n = List.range t ++ t :: List.range' (t + 1) (n - t - 1) := by
  rw [List.range_eq_range', List.range_eq_range']
  have := List.range'_append_1 (s := 0) (m := t) (n := n - t)
  rw [show t + (n - t) = n by omega] at this
  rw [← this]
  congr 1
  rw [show n - t = (n - t - 1) + 1 by omega, List.range'_succ]
  simp
theorem bits_next (n : Nat) (h0 : n ≠ 0) (h : n < 2 ^ 64) : bitsOf n = Lib.ctz 64 n :: bitsOf (n &&& (n - 1)) := by
  obtain ⟨h1, h2, h3, h4⟩ := low_bits n h0 h
  generalize Lib.ctz 64 n = t at *
  unfold bitsOf
  rw [range_cut t 64 h1, List.filter_append, List.filter_append, List.filter_cons, List.filter_cons, if_pos h2, if_neg (by rw [h4]; simp)]
  have e1 : (List.range t).filter (fun k => n.testBit k) = [] := by
    rw [List.filter_eq_nil_iff]
    intro k hk
    rw [h3 k (by simpa using hk)]
    simp
  have e2 : (List.range t).filter (fun k => (n &&& (n - 1)).testBit k) = [] := by
    rw [List.filter_eq_nil_iff]
    intro k hk
    rw [h4, h3 k (by simpa using hk)]
    simp
  rw [e1, e2, List.nil_append, List.nil_append]
  congr 1
  apply List.filter_congr
  intro k hk
  rw [List.mem_range'] at hk
  obtain ⟨i, _, hk⟩ := hk
  rw [h4, decide_eq_true (by omega), Bool.and_true]
theorem bits_len (n : Nat) : (bitsOf n).length ≤ 64 := by
  unfold bitsOf
  have := List.length_filter_le (fun k => n.testBit k) (List.range 64)
  simpa using this
theorem bits_lt (n : Nat) : ∀ k ∈ bitsOf n, k < 64 := by
  unfold bitsOf
  intro k hk
  have := (List.mem_filter.1 hk).1
  simpa using this
def bump (cnt : List Int) (k : Nat) : List Int := cnt.set k (cnt.getD k 0 + 1)
def addMask (req cv : Nat) (cnt : List Int) (m : Nat) : List Int := if m &&& cv = 0 then (bitsOf (m &&& req)).foldl bump cnt else cnt
theorem bump_len (cnt : List Int) (k : Nat) : (bump cnt k).length = cnt.length := by simp [bump]
theorem bump_get (cnt : List Int) (k j : Nat) (hk : k < cnt.length) : (bump cnt k).getD j 0 = cnt.getD j 0 + if j = k then 1 else 0 := by
  unfold bump
  rw [List.getD_eq_getElem?_getD, List.getElem?_set]
  by_cases c : k = j
  · subst c
    rw [if_pos rfl, if_pos hk, if_pos rfl]
    rfl
  · rw [if_neg c, if_neg (fun e => c e.symm), Int.add_zero]
    rfl
theorem foldl_bump (ks : List Nat) (cnt : List Int) (hk : ∀ k ∈ ks, k < cnt.length) (hd : ks.Nodup) (j : Nat) : (ks.foldl bump cnt).length = cnt.length ∧ (ks.foldl bump cnt).getD j 0 = cnt.getD j 0 + if j ∈ ks then 1 else 0 := by
  induction ks generalizing cnt with
  | nil => simp
  | cons k ks ih =>
    rw [List.foldl_cons]
    rw [List.nodup_cons] at hd
    obtain ⟨h1, h2⟩ := ih (bump cnt k) (fun m hm => by rw [bump_len]; exact hk m (by simp [hm])) hd.2
    rw [bump_len] at h1
    refine ⟨h1, ?_⟩
    rw [h2, bump_get cnt k j (hk k (by simp))]
    by_cases c : j = k
    · subst c
      rw [if_pos rfl, if_neg hd.1, if_pos (by simp)]
      omega
    · rw [if_neg c]
      by_cases c2 : j ∈ ks
      · rw [if_pos c2, if_pos (by simp [c2])]; omega
      · rw [if_neg c2, if_neg (by simp [c, c2])]; omega
theorem bits_mem (n j : Nat) (hj : j < 64) : j ∈ bitsOf n ↔ n.testBit j = true := by
  unfold bitsOf
  rw [List.mem_filter]
  simp [hj]
theorem bits_nodup (n : Nat) : (bitsOf n).Nodup := List.Nodup.sublist List.filter_sublist List.nodup_range
theorem addMask_get (req cv : Nat) (cnt : List Int) (m j : Nat) (hc : cnt.length = 64) (hj : j < 64) : (addMask req cv cnt m).length = 64 ∧ (addMask req cv cnt m).getD j 0 = cnt.getD j 0 + if (m &&& cv == 0 && (m &&& req).testBit j) = true then 1 else 0 := by
  unfold addMask
  by_cases c : m &&& cv = 0
  · rw [if_pos c]
    obtain ⟨h1, h2⟩ := foldl_bump (bitsOf (m &&& req)) cnt (fun k hk => by rw [hc]; exact bits_lt _ k hk) (bits_nodup _) j
    refine ⟨h1.trans hc, ?_⟩
    rw [h2]
    have e : (m &&& cv == 0) = true := by simpa using c
    rw [e, Bool.true_and]
    by_cases c2 : j ∈ bitsOf (m &&& req)
    · rw [if_pos c2, if_pos ((bits_mem _ j hj).1 c2)]
    · rw [if_neg c2, if_neg (fun h => c2 ((bits_mem _ j hj).2 h))]
  · rw [if_neg c]
    have e : (m &&& cv == 0) = false := by simpa using c
    rw [e]
    simp [hc]
theorem counts_get (req cv : Nat) (masks : List Nat) (cnt : List Int) (j : Nat) (hc : cnt.length = 64) (hj : j < 64) : (masks.foldl (addMask req cv) cnt).length = 64 ∧ (masks.foldl (addMask req cv) cnt).getD j 0 = cnt.getD j 0 + (cntM masks req cv j : Nat) := by
  induction masks generalizing cnt with
  | nil => simp [hc, cntM]
  | cons m ms ih =>
    rw [List.foldl_cons]
    obtain ⟨h1, h2⟩ := addMask_get req cv cnt m j hc hj
    obtain ⟨h3, h4⟩ := ih _ h1
    refine ⟨h3, ?_⟩
    rw [h4, h2]
    unfold cntM
    rw [List.filter_cons]
    by_cases c : (m &&& cv == 0 && (m &&& req).testBit j) = true
    · rw [if_pos c, if_pos c, List.length_cons]; omega
    · rw [if_neg c, if_neg c]; omega
/-- The best column, as the program goes: the counts are a row. -/
def bestC (cnt : List Int) (b : Int) (k : Nat) : Int := if b < 0 ∨ cnt.getD k 0 < cnt.getD b.toNat 0 then (k : Int) else b
theorem best_same (masks : List Nat) (req cv : Nat) (cnt : List Int) (h : cnt = masks.foldl (addMask req cv) (List.replicate 64 0)) : (bitsOf (req ^^^ (req &&& cv))).foldl (bestC cnt) (-1) = bestM masks req cv := by
  have hg : ∀ j, j < 64 → cnt.getD j 0 = (cntM masks req cv j : Nat) := fun j hj => by
    rw [h, (counts_get req cv masks (List.replicate 64 0) j (by simp) hj).2]
    have e0 : (List.replicate 64 (0 : Int)).getD j 0 = 0 := by
      rw [List.getD_eq_getElem?_getD, List.getElem?_replicate, if_pos hj]; rfl
    rw [e0, Int.zero_add]
  unfold bestM
  have key : ∀ (ks : List Nat) (b : Int), (∀ k ∈ ks, k < 64) → b < 64 → ks.foldl (bestC cnt) b = ks.foldl (bestStep masks req cv) b := by
    intro ks
    induction ks with
    | nil => intro b _ _; rfl
    | cons k ks ih =>
      intro b hk hb
      rw [List.foldl_cons, List.foldl_cons]
      have e : bestC cnt b k = bestStep masks req cv b k := by
        unfold bestC bestStep
        by_cases c : b < 0
        · rw [if_pos (.inl c), if_pos (.inl c)]
        · rw [hg k (hk k (by simp)), hg b.toNat (by omega)]
          simp only [c, false_or, Int.ofNat_lt]
      rw [← e]
      refine ih _ (fun m hm => hk m (by simp [hm])) ?_
      unfold bestC
      have := hk k (by simp)
      split <;> omega
  exact key _ _ (bits_lt _) (by decide)
theorem andNot_xor (req cv : Nat) (hr : req < 2 ^ 64) (hc : cv < 2 ^ 64) : req &&& (18446744073709551615 - cv) = req ^^^ (req &&& cv) := by
  apply Nat.eq_of_testBit_eq
  intro k
  rw [Nat.testBit_and, Nat.testBit_xor, Nat.testBit_and, show 18446744073709551615 - cv = 2 ^ 64 - (cv + 1) by omega, Nat.testBit_two_pow_sub_succ hc]
  by_cases c : k < 64
  · rw [decide_eq_true c]
    cases req.testBit k <;> cases cv.testBit k <;> rfl
  · have : req.testBit k = false := Nat.testBit_lt_two_pow (Nat.lt_of_lt_of_le hr (Nat.pow_le_pow_right (by decide) (by omega)))
    rw [this]
    simp
end Go.Proofs.YtoglcgnbkibpgaaDoorW.Cov

/- impl.bestColumn, walked: the counts lie in an array of the function's own. -/
namespace Go.Proofs.YtoglcgnbkibpgaaDoor.A
open Go.RowKit Go.Proofs.YtoglcgnbkibpgaaDoorW.PrintWords Go.Proofs.YtoglcgnbkibpgaaDoorW.PrintLast Go.Proofs.YtoglcgnbkibpgaaDoorW.PrintMore Go.Proofs.YtoglcgnbkibpgaaDoorW.Cov Go.Proofs.YtoglcgnbkibpgaaDoorW.Tree
set_option linter.unusedVariables false
set_option linter.unusedSimpArgs false
def cellsI (cnt : List Int) : Array Value := (cnt.map (Value.int .i64)).toArray
theorem cellsI_get (cnt : List Int) (j : Nat) (h : j < cnt.length) : (cellsI cnt)[j]? = some (.int .i64 (cnt.getD j 0)) := by
  unfold cellsI
  simp [h]
theorem cellsI_set (cnt : List Int) (j : Nat) (x : Int) : cellsI (cnt.set j x) = (cellsI cnt).setIfInBounds j (.int .i64 x) := by
  unfold cellsI
  rw [List.setIfInBounds_toArray, List.map_set]
theorem cellsI_zero : cellsI (List.replicate 64 0) = #[.int .i64 0, .int .i64 0, .int .i64 0, .int .i64 0, .int .i64 0, .int .i64 0, .int .i64 0, .int .i64 0, .int .i64 0, .int .i64 0, .int .i64 0, .int .i64 0, .int .i64 0, .int .i64 0, .int .i64 0, .int .i64 0, .int .i64 0, .int .i64 0, .int .i64 0, .int .i64 0, .int .i64 0, .int .i64 0, .int .i64 0, .int .i64 0, .int .i64 0, .int .i64 0, .int .i64 0, .int .i64 0, .int .i64 0, .int .i64 0, .int .i64 0, .int .i64 0, .int .i64 0, .int .i64 0, .int .i64 0, .int .i64 0, .int .i64 0, .int .i64 0, .int .i64 0, .int .i64 0, .int .i64 0, .int .i64 0, .int .i64 0, .int .i64 0, .int .i64 0, .int .i64 0, .int .i64 0, .int .i64 0, .int .i64 0, .int .i64 0, .int .i64 0, .int .i64 0, .int .i64 0, .int .i64 0, .int .i64 0, .int .i64 0, .int .i64 0, .int .i64 0, .int .i64 0, .int .i64 0, .int .i64 0, .int .i64 0, .int .i64 0, .int .i64 0] := by rfl
/-- A store of what lies there changes nothing. -/
theorem setCell_same {w : World} {g : Nat} {cs : Array Value} {t : TypeId} {fr : Nat × Nat} (h : w.heap[g]? = some (.cells cs t fr)) (j : Nat) (v : Value) (hv : cs[j]? = some v) : w.setCell ⟨g, j, none⟩ v = w := by
  obtain ⟨hg, he⟩ := Array.getElem?_eq_some_iff.1 h
  unfold World.setCell
  have e : (w.heap.modify g fun
      | .cells c elem frozen => .cells (if (none : Option Nat).isSome then c else c.setIfInBounds j v) elem frozen
      | o => o) = w.heap := by
    apply Array.ext
    · simp
    · intro i h1 h2
      rw [Array.getElem_modify]
      split
      · rename_i e
        subst e
        rw [he]
        obtain ⟨hj, hje⟩ := Array.getElem?_eq_some_iff.1 hv
        have : cs.setIfInBounds j v = cs := by
          apply Array.ext
          · simp
          · intro k h1 h2
            rw [Array.getElem_setIfInBounds]
            split
            · rename_i e; subst e; exact hje.symm
            · rfl
        simp [this]
      · rfl
  simp only at e ⊢
  exact congrArg (fun x => { w with heap := x }) e
theorem setCells_same {w : World} {g : Nat} {cs : Array Value} {t : TypeId} {fr : Nat × Nat} (h : w.heap[g]? = some (.cells cs t fr)) : ∀ (vs : List Value) (o : Nat), (∀ j v, vs[j]? = some v → cs[o + j]? = some v) → w.setCells g o vs = w
  | [], o, _ => rfl
  | v :: vs, o, hv => by
    unfold World.setCells
    rw [setCell_same h o v (by simpa using hv 0 v rfl)]
    exact setCells_same h vs (o + 1) (fun j u hu => by have := hv (j + 1) u (by simpa using hu); rwa [Nat.add_assoc, Nat.add_comm 1 j])
/-- How it counts: what a loop over the masks holds. -/
def cntOk (i : Nat) (cnt : List Int) : Prop := cnt.length = 64 ∧ ∀ j, j < 64 → 0 ≤ cnt.getD j 0 ∧ cnt.getD j 0 ≤ 64 * (i : Int)
set_option maxHeartbeats 2000000 in
set_option maxRecDepth 100000 in
theorem impl_bestColumn.calls' (masks : List Nat) (hm : ∀ m ∈ masks, m < 2 ^ 60) (hn : masks.length ≤ 400) (req cv : Nat) (hr : req < 2 ^ 60) (hcv : cv < 2 ^ 60) (w : World) (hT : TabAt 0 Lib.deBruijn64tab w) (g : Nat) (Am : Option Addr) (cm : Nat) (hM : kU.C w Am masks.length (masks.map fun (m : Nat) => (m : Int))) (hcm : masks.length ≤ cm)
    (h0 : w.cell? ⟨g, 0, none⟩ = some (.slice Am masks.length cm)) (h1 : w.cell? ⟨g, 1, none⟩ = some (.int .u64 (req : Int))) :
    Calls Tryd.prog 68 #[.pointer (some ⟨g, 0, none⟩), .int .u64 (cv : Int)] w fun e w' => e = .returned (.int .i64 (bestM masks req cv)) ∧ Below w.heap.size w w' := by
  have HN := A0_ hn
  have HMM := A0_ hm
  have HT := A0_ hT
  have HM := A0_ hM
  have H0 := A0_ h0
  have H1 := A0_ h1
  obtain ⟨z, hz⟩ : ∃ z : List Int, z = List.replicate 64 0 := ⟨_, rfl⟩
  have HZ := A0_ hz
  have HV := A0_ (show Value.agg #[.int .i64 0, .int .i64 0, .int .i64 0, .int .i64 0, .int .i64 0, .int .i64 0, .int .i64 0, .int .i64 0, .int .i64 0, .int .i64 0, .int .i64 0, .int .i64 0, .int .i64 0, .int .i64 0, .int .i64 0, .int .i64 0, .int .i64 0, .int .i64 0, .int .i64 0, .int .i64 0, .int .i64 0, .int .i64 0, .int .i64 0, .int .i64 0, .int .i64 0, .int .i64 0, .int .i64 0, .int .i64 0, .int .i64 0, .int .i64 0, .int .i64 0, .int .i64 0, .int .i64 0, .int .i64 0, .int .i64 0, .int .i64 0, .int .i64 0, .int .i64 0, .int .i64 0, .int .i64 0, .int .i64 0, .int .i64 0, .int .i64 0, .int .i64 0, .int .i64 0, .int .i64 0, .int .i64 0, .int .i64 0, .int .i64 0, .int .i64 0, .int .i64 0, .int .i64 0, .int .i64 0, .int .i64 0, .int .i64 0, .int .i64 0, .int .i64 0, .int .i64 0, .int .i64 0, .int .i64 0, .int .i64 0, .int .i64 0, .int .i64 0, .int .i64 0] = Value.agg (cellsI z) by rw [hz, cellsI_zero])
  obtain ⟨wA, hwA⟩ : ∃ wA, wA = w.alloc (.cells (cellsI z) 92) := ⟨_, rfl⟩
  have HW := A0_ (show w.alloc (.cells #[.int .i64 0, .int .i64 0, .int .i64 0, .int .i64 0, .int .i64 0, .int .i64 0, .int .i64 0, .int .i64 0, .int .i64 0, .int .i64 0, .int .i64 0, .int .i64 0, .int .i64 0, .int .i64 0, .int .i64 0, .int .i64 0, .int .i64 0, .int .i64 0, .int .i64 0, .int .i64 0, .int .i64 0, .int .i64 0, .int .i64 0, .int .i64 0, .int .i64 0, .int .i64 0, .int .i64 0, .int .i64 0, .int .i64 0, .int .i64 0, .int .i64 0, .int .i64 0, .int .i64 0, .int .i64 0, .int .i64 0, .int .i64 0, .int .i64 0, .int .i64 0, .int .i64 0, .int .i64 0, .int .i64 0, .int .i64 0, .int .i64 0, .int .i64 0, .int .i64 0, .int .i64 0, .int .i64 0, .int .i64 0, .int .i64 0, .int .i64 0, .int .i64 0, .int .i64 0, .int .i64 0, .int .i64 0, .int .i64 0, .int .i64 0, .int .i64 0, .int .i64 0, .int .i64 0, .int .i64 0, .int .i64 0, .int .i64 0, .int .i64 0, .int .i64 0] 92) = wA by rw [hwA, hz, cellsI_zero])
  obtain ⟨ga, hga⟩ : ∃ ga, ga = w.heap.size := ⟨_, rfl⟩
  have HS := A0_ (show Sp w ([Res.blk ga (cellsI z) 92] ++ []) wA from by rw [hwA, hga]; exact Sp.box (Sp.start w) (cellsI z) 92)
  have HGA := A0_ hga.symm
  have q0 := pw_cell_below HS.out.below h0
  have q1 := pw_cell_below HS.out.below h1
  obtain ⟨fin, hfin⟩ : ∃ fin, fin = masks.foldl (addMask req cv) z := ⟨_, rfl⟩
  have HF := A0_ hfin
  clear hfin hz hwA hga h0 h1 hM hT hm hn
  go_enter Tryd.func68, Tryd.ntmps68
  go_wp2_with (first
    | ((with_reducible refine gate_store (t := 92) (p := 5) (v := .tmp 12) rfl ?_); rw [HW.out, HV.out, HGA.out];
       refine wpList_store_mid rfl 92 (.tmp 5) (.tmp 12) rfl ga 0 (cellsI z) rfl rfl ?ht ?hi ?h1 ?_;
       (case ht => intro j hj; rw [Nat.zero_add]; have hj' : j < z.length := (by simpa [cellsI] using hj); have hg_ := (Sp.blk HS.out (i := 0) rfl).1; exact ⟨by rw [blk_cell hg_, cellsI_get z j hj']; rfl, blk_frozen hg_ j⟩);
       (case hi => rw [show (cellsI z).size = 64 by rw [HZ.out]; rfl]; kernel_rfl);
       (case h1 => exact all_oneCell_toArray (fun v hv => by rw [List.mem_map] at hv; obtain ⟨x, _, rfl⟩ := hv; rfl));
       rw [setCells_same (Sp.blk HS.out (i := 0) rfl).1 (cellsI z).toList 0 (fun j v hv => by simpa using hv)]))
  go_loopg [18] (masks.length + 1) (fun kq v18 w' => ∃ (i : Nat) (cnt : List Int), v18 = .int .i64 (i : Int) ∧ Aside0 (i ≤ masks.length ∧ kq + i = masks.length + 1) ∧ Aside0 (cntOk i cnt ∧ (masks.drop i).foldl (addMask req cv) cnt = fin) ∧ Aside0 (Sp w ([Res.blk ga (cellsI cnt) 92] ++ []) w'))
  case atStart => exact ⟨0, z, rfl, ⟨by omega, by omega⟩, ⟨⟨by rw [HZ.out]; rfl, fun j hj => by rw [HZ.out, List.getD_eq_getElem?_getD, List.getElem?_replicate, if_pos hj]; exact ⟨Int.le_refl _, Int.le_refl _⟩⟩, HF.out.symm⟩, HS⟩
  case round =>
    clear HS q0 q1
    obtain ⟨i, cnt, rfl, HX, HC, HS⟩ := hrel
    obtain ⟨k1, rfl⟩ : ∃ k1, gk = k1 + 1 := ⟨gk - 1, by have := HX.out; omega⟩
    have q0 := pw_cell_below HS.out.below H0.out
    have q1 := pw_cell_below HS.out.below H1.out
    by_cases c : i < masks.length
    · have c0 : decide (i < masks.length) = true := decide_eq_true c
      have c1 := eq_true c
      have hlm : (masks.map fun (m : Nat) => (m : Int)).length = masks.length := by simp
      obtain ⟨ad, e, hx⟩ := Kd.at_int HM.out (i : Int) (by omega) (by omega)
      cases e
      have er : rd (masks.map fun (m : Nat) => (m : Int)) (i : Int) = ((masks[i] : Nat) : Int) := by rw [rd_nat _ i (by omega)]; simp
      rw [er, Int.toNat_natCast] at hx
      obtain ⟨m, hm⟩ : ∃ m, m = masks[i] := ⟨_, rfl⟩
      rw [← hm] at hx
      replace hx := pw_cell_below HS.out.below hx
      have hm60 := HMM.out masks[i] (List.getElem_mem c)
      rw [← hm] at hm60
      have HDR := A0_ (show masks.drop i = m :: masks.drop (i + 1) by rw [hm]; exact List.drop_eq_getElem_cons c)
      have two60 : (2 : Nat) ^ 60 < 18446744073709551616 := by decide
      have E1 := A0_ (u64_and_nat m cv (by omega) (by omega))
      have E2 := A0_ (u64_and_nat m req (by omega) (by omega))
      have HQ := A0_ (show m &&& req < 2 ^ 60 from Nat.lt_of_le_of_lt Nat.and_le_left hm60)
      have HWI := A0_ (wrap_succ i (by have := HN.out; have := HX.out; omega))
      have HCC := A0_ c
      clear er hm c hm60 hlm two60
      by_cases cc : m &&& cv = 0
      · have HST := A0_ (show (masks.drop (i + 1)).foldl (addMask req cv) ((bitsOf (m &&& req)).foldl bump cnt) = fin by
          have := HC.out.2
          rw [HDR.out, List.foldl_cons] at this
          unfold addMask at this
          rw [if_pos cc] at this
          exact this)
        rw [cc] at E1
        clear cc
        obtain ⟨q, hq⟩ : ∃ q, q = m &&& req := ⟨_, rfl⟩
        rw [← hq] at E2 HQ HST
        clear hq
        go_wp2_with (first | rw [E1.out] | rw [E2.out])
        go_loopg [8] ((bitsOf q).length + 1) (fun kq v8 w' => ∃ (l : Nat) (cnt' : List Int), v8 = .int .u64 (l : Int) ∧ Aside0 (l < 2 ^ 60 ∧ kq = (bitsOf l).length + 1) ∧ Aside0 (cnt'.length = 64 ∧ (∀ j, j < 64 → 0 ≤ cnt'.getD j 0 ∧ cnt'.getD j 0 + (bitsOf l).length ≤ 64 * ((i : Int) + 1)) ∧ (masks.drop (i + 1)).foldl (addMask req cv) ((bitsOf l).foldl bump cnt') = fin) ∧ Aside0 (Sp w ([Res.blk ga (cellsI cnt') 92] ++ []) w'))
        case atStart => exact ⟨q, cnt, rfl, ⟨HQ.out, rfl⟩, ⟨HC.out.1.1, fun j hj => ⟨(HC.out.1.2 j hj).1, by have := (HC.out.1.2 j hj).2; have := bits_len q; omega⟩, HST.out⟩, HS⟩
        case round =>
          clear HS HC HST HQ E1 E2 q0 q1 hx
          obtain ⟨l, cnt', rfl, HL, HC, HS⟩ := hrel
          by_cases c2 : l = 0
          · subst c2
            go_wp2
            go_roundg k1
            case measure => omega
            case rel =>
              rw [HWI.out]
              exact ⟨i + 1, cnt', rfl, ⟨by have := HCC.out; omega, by have := HX.out; omega⟩, ⟨⟨HC.out.1, fun j hj => ⟨(HC.out.2.1 j hj).1, by have := (HC.out.2.1 j hj).2; rw [bits_zero] at this; simp only [List.length_nil] at this; push_cast; omega⟩⟩, by have := HC.out.2.2; rw [bits_zero] at this; exact this⟩, HS⟩
          · have two60 : (2 : Nat) ^ 60 < 18446744073709551616 := by decide
            have hl := HL.out.1
            have HLT := A0_ (show l < 18446744073709551616 by omega)
            have HL0 := A0_ c2
            have l0 : (l = 0) = False := eq_false c2
            have l1 : (l == 0) = false := by rw [beq_eq_false_iff_ne]; exact c2
            have HT2 := A0_ (show TabAt 0 Lib.deBruijn64tab wr from fun j hj => pw_cell_below HS.out.below (HT.out j hj))
            have HBN := A0_ (bits_next l c2 (by omega))
            obtain ⟨ht1, _, _, _⟩ := low_bits l c2 (by omega)
            obtain ⟨t, ht⟩ : ∃ t, t = Lib.ctz 64 l := ⟨_, rfl⟩
            rw [← ht] at ht1 HBN
            have HTT := A0_ ht.symm
            have hg_ := (Sp.blk HS.out (i := 0) rfl).1
            have hy := (blk_cell hg_ t).trans (cellsI_get cnt' t (by rw [HC.out.1]; exact ht1))
            have hz_ := blk_frozen hg_ t
            have HE3 := A0_ (show IntKind.u64.wrap ((l : Int) - 1) = ((l - 1 : Nat) : Int) by rw [IntKind.wrap_u64]; omega)
            have HE4 := A0_ (u64_and_nat l (l - 1) (by omega) (by omega))
            have HL2 := A0_ (show l &&& (l - 1) < 2 ^ 60 from Nat.lt_of_le_of_lt Nat.and_le_left hl)
            have HB := HC.out.2.1 t ht1
            have HCB := A0_ HB
            obtain ⟨x, hx⟩ : ∃ x, x = cnt'.getD t 0 := ⟨_, rfl⟩
            rw [← hx] at hy
            have HXX := A0_ hx
            have HWX := A0_ (show wrap64 (x + 1) = x + 1 by rw [hx]; unfold wrap64; have := HX.out; have := HN.out; omega)
            have t0 : ((t : Int) < 64) = True := eq_true (by omega)
            have t1 : ((64 : Int) ≤ (t : Int)) = False := eq_false (by omega)
            have HTL := A0_ ht1
            clear HB hx ht two60 hl c2 hg_ ht1
            go_wp2_with (first
              | (go_at_call 83; refine (tz_calls l HLT.out HL0.out _ HT2.out).mono ?_; rintro e w1 ⟨rfl, rfl⟩; rw [HTT.out])
              | rw [HE3.out] | rw [HE4.out] | rw [HWX.out])
            go_roundg ((bitsOf (l &&& (l - 1))).length + 1)
            case measure => rw [HL.out.2, HBN.out]; simp
            case rel =>
              have hlen : (bitsOf l).length = (bitsOf (l &&& (l - 1))).length + 1 := by rw [HBN.out]; rfl
              refine ⟨l &&& (l - 1), bump cnt' t, rfl, ⟨HL2.out, rfl⟩, ⟨by rw [bump_len]; exact HC.out.1, fun j hj => ?_, ?_⟩, ⟨?_⟩⟩
              · have hb := HC.out.2.1 j hj
                rw [hlen] at hb
                rw [bump_get cnt' t j (by rw [HC.out.1]; exact HTL.out)]
                push_cast at hb
                split <;> omega
              · have := HC.out.2.2
                rw [HBN.out, List.foldl_cons] at this
                exact this
              · have hz := Sp.set HS.out 0 rfl t (.int .i64 (x + 1)) (blk_put (cs' := cellsI (bump cnt' t)) (Sp.blk HS.out (i := 0) rfl).1 t _ (by unfold bump; rw [← HXX.out, cellsI_set]))
                exact hz
      · have HST := A0_ (show (masks.drop (i + 1)).foldl (addMask req cv) cnt = fin by
          have := HC.out.2
          rw [HDR.out, List.foldl_cons] at this
          unfold addMask at this
          rw [if_neg cc] at this
          exact this)
        obtain ⟨p, hp⟩ : ∃ p, p = m &&& cv := ⟨_, rfl⟩
        rw [← hp] at E1 cc
        clear hp
        have p0 : (p = 0) = False := eq_false cc
        go_wp2_with (first | rw [E1.out] | rw [E2.out])
        go_roundg k1
        case measure => omega
        case rel =>
          rw [HWI.out]
          exact ⟨i + 1, cnt, rfl, ⟨by have := HCC.out; omega, by have := HX.out; omega⟩, ⟨⟨HC.out.1.1, fun j hj => ⟨(HC.out.1.2 j hj).1, by have := (HC.out.1.2 j hj).2; push_cast; omega⟩⟩, HST.out⟩, HS⟩
    · have c0 : decide (i < masks.length) = false := decide_eq_false c
      have hi : i = masks.length := by have := HX.out; omega
      have hfin : cnt = fin := by have := HC.out.2; rw [hi, List.drop_length] at this; exact this
      have two60 : (2 : Nat) ^ 60 < 18446744073709551616 := by decide
      have HCL := A0_ HC.out.1.1
      have HBS := A0_ (best_same masks req cv cnt (by rw [hfin, HF.out, HZ.out]))
      obtain ⟨q2, hq2⟩ : ∃ q2, q2 = req ^^^ (req &&& cv) := ⟨_, rfl⟩
      rw [← hq2] at HBS
      have HE := A0_ (show bits .andNot .u64 (req : Int) (cv : Int) = ((q2 : Nat) : Int) by rw [u64_andNot_nat req cv (by omega) (by omega), andNot_xor req cv (by omega) (by omega), hq2])
      have HQ2 := A0_ (show q2 < 2 ^ 60 by rw [hq2, ← andNot_xor req cv (by omega) (by omega)]; exact Nat.lt_of_le_of_lt Nat.and_le_left hr)
      clear hq2 hfin hi c two60 HC HF HX
      go_wp2_with (rw [HE.out])
      go_loopg [9, 10] ((bitsOf q2).length + 1) (fun kq v9 v10 w' => ∃ (b : Int) (l : Nat), v9 = .int .i64 b ∧ v10 = .int .u64 (l : Int) ∧ Aside0 (l < 2 ^ 60 ∧ kq = (bitsOf l).length + 1 ∧ -1 ≤ b ∧ b < 64 ∧ (bitsOf l).foldl (bestC cnt) b = bestM masks req cv) ∧ Aside0 (Sp w ([Res.blk ga (cellsI cnt) 92] ++ []) w'))
      case atStart => exact ⟨-1, q2, rfl, rfl, ⟨HQ2.out, rfl, by omega, by omega, HBS.out⟩, HS⟩
      case round =>
        clear HS HQ2 HBS q0 q1 HE
        obtain ⟨b, l, rfl, rfl, HL, HS⟩ := hrel
        by_cases c2 : l = 0
        · subst c2
          have he := HL.out.2.2.2.2
          rw [bits_zero] at he
          have HEE := A0_ (show b = bestM masks req cv from he)
          clear he
          go_wp2
          go_ret
          exact ⟨by rw [← HEE.out]; rfl, HS.out.below⟩
        · have two60 : (2 : Nat) ^ 60 < 18446744073709551616 := by decide
          have hl := HL.out.1
          have HLT := A0_ (show l < 18446744073709551616 by omega)
          have HL0 := A0_ c2
          have l0 : (l = 0) = False := eq_false c2
          have l1 : (l == 0) = false := by rw [beq_eq_false_iff_ne]; exact c2
          have HT2 := A0_ (show TabAt 0 Lib.deBruijn64tab wr from fun j hj => pw_cell_below HS.out.below (HT.out j hj))
          have HBN := A0_ (bits_next l c2 (by omega))
          obtain ⟨ht1, _, _, _⟩ := low_bits l c2 (by omega)
          obtain ⟨t, ht⟩ : ∃ t, t = Lib.ctz 64 l := ⟨_, rfl⟩
          rw [← ht] at ht1 HBN
          have HTT := A0_ ht.symm
          have HE3 := A0_ (show IntKind.u64.wrap ((l : Int) - 1) = ((l - 1 : Nat) : Int) by rw [IntKind.wrap_u64]; omega)
          have HE4 := A0_ (u64_and_nat l (l - 1) (by omega) (by omega))
          have HL2 := A0_ (show l &&& (l - 1) < 2 ^ 60 from Nat.lt_of_le_of_lt Nat.and_le_left hl)
          have t0 : ((t : Int) < 64) = True := eq_true (by omega)
          have t1 : ((64 : Int) ≤ (t : Int)) = False := eq_false (by omega)
          have HTL := A0_ ht1
          clear ht two60 hl c2 ht1
          by_cases cb : b < 0
          · have b0 : decide (b < 0) = true := decide_eq_true cb
            have HCB := A0_ cb
            clear cb
            go_wp2_with (first
              | (go_at_call 83; refine (tz_calls l HLT.out HL0.out _ HT2.out).mono ?_; rintro e w1 ⟨rfl, rfl⟩; rw [HTT.out])
              | rw [HE3.out] | rw [HE4.out])
            go_quiet (fail)
            go_wp2_with (first | rw [HE3.out] | rw [HE4.out])
            go_roundg ((bitsOf (l &&& (l - 1))).length + 1)
            case measure => rw [HL.out.2.1, HBN.out]; simp
            case rel =>
              refine ⟨(t : Int), l &&& (l - 1), rfl, rfl, ⟨HL2.out, rfl, by omega, by have := HTL.out; omega, ?_⟩, ⟨Sp.drewN HS.out _⟩⟩
              have := HL.out.2.2.2.2
              rw [HBN.out, List.foldl_cons] at this
              rw [← this]
              unfold bestC
              rw [if_pos (.inl HCB.out)]
          · have b0 : decide (b < 0) = false := decide_eq_false cb
            have HCB := A0_ cb
            have hb64 := HL.out.2.2.2.1
            have bb0 : (0 ≤ b) = True := eq_true (by omega)
            have bb1 : (b < 64) = True := eq_true hb64
            have hg_ := (Sp.blk HS.out (i := 0) rfl).1
            have hy := (blk_cell hg_ t).trans (cellsI_get cnt t (by rw [HCL.out]; exact HTL.out))
            have hyb := (blk_cell hg_ b.toNat).trans (cellsI_get cnt b.toNat (by rw [HCL.out]; omega))
            obtain ⟨x, hx⟩ : ∃ x, x = cnt.getD t 0 := ⟨_, rfl⟩
            obtain ⟨y, hy2⟩ : ∃ y, y = cnt.getD b.toNat 0 := ⟨_, rfl⟩
            rw [← hx] at hy
            rw [← hy2] at hyb
            have HXX := A0_ hx
            have HYY := A0_ hy2
            clear hx hy2 hg_ cb hb64
            by_cases cx : x < y
            · have cx0 : decide (x < y) = true := decide_eq_true cx
              have HCX := A0_ cx
              clear cx
              go_wp2_with (first
                | (go_at_call 83; refine (tz_calls l HLT.out HL0.out _ HT2.out).mono ?_; rintro e w1 ⟨rfl, rfl⟩; rw [HTT.out])
                | rw [HE3.out] | rw [HE4.out])
              go_quiet (fail)
              go_wp2_with (first | rw [HE3.out] | rw [HE4.out])
              go_roundg ((bitsOf (l &&& (l - 1))).length + 1)
              case measure => rw [HL.out.2.1, HBN.out]; simp
              case rel =>
                refine ⟨(t : Int), l &&& (l - 1), rfl, rfl, ⟨HL2.out, rfl, by omega, by have := HTL.out; omega, ?_⟩, ⟨Sp.drewN HS.out _⟩⟩
                have := HL.out.2.2.2.2
                rw [HBN.out, List.foldl_cons] at this
                rw [← this]
                unfold bestC
                rw [if_pos (.inr (by rw [← HXX.out, ← HYY.out]; exact HCX.out))]
            · have cx0 : decide (x < y) = false := decide_eq_false cx
              have HCX := A0_ cx
              clear cx
              go_wp2_with (first
                | (go_at_call 83; refine (tz_calls l HLT.out HL0.out _ HT2.out).mono ?_; rintro e w1 ⟨rfl, rfl⟩; rw [HTT.out])
                | rw [HE3.out] | rw [HE4.out])
              go_quiet (fail)
              go_wp2_with (first | rw [HE3.out] | rw [HE4.out])
              go_roundg ((bitsOf (l &&& (l - 1))).length + 1)
              case measure => rw [HL.out.2.1, HBN.out]; simp
              case rel =>
                refine ⟨b, l &&& (l - 1), rfl, rfl, ⟨HL2.out, rfl, by have := HL.out.2.2.1; omega, by have := HL.out.2.2.2.1; omega, ?_⟩, ⟨Sp.drewN HS.out _⟩⟩
                have := HL.out.2.2.2.2
                rw [HBN.out, List.foldl_cons] at this
                rw [← this]
                unfold bestC
                rw [if_neg (by rw [← HXX.out, ← HYY.out]; exact fun h => h.elim (fun h1 => by have := HCB.out; omega) (fun h2 => by have := HCX.out; omega))]
end Go.Proofs.YtoglcgnbkibpgaaDoor.A

/- The program's search over masks, step by step: plain. -/
namespace Go.Proofs.YtoglcgnbkibpgaaDoorW.Cov
open Go.Proofs.YtoglcgnbkibpgaaDoorW.Tree
set_option linter.unusedVariables false
/-- The columns that are still to be covered. -/
def leftM (req cv : Nat) : List Nat := bitsOf (req ^^^ (req &&& cv))
theorem best_mem (masks : List Nat) (req cv : Nat) (h : 0 ≤ bestM masks req cv) : (bestM masks req cv).toNat ∈ leftM req cv := by
  have key : ∀ (ks : List Nat) (b : Int), ks.foldl (bestStep masks req cv) b = b ∨ ∃ k ∈ ks, ks.foldl (bestStep masks req cv) b = (k : Int) := by
    intro ks
    induction ks with
    | nil => intro b; exact .inl rfl
    | cons k ks ih =>
      intro b
      rw [List.foldl_cons]
      rcases ih (bestStep masks req cv b k) with h | ⟨j, hj, h⟩
      · rw [h]
        unfold bestStep
        split
        · exact .inr ⟨k, by simp, rfl⟩
        · exact .inl rfl
      · exact .inr ⟨j, by simp [hj], h⟩
  rcases key (leftM req cv) (-1) with h1 | ⟨k, hk, h1⟩
  · exact absurd (show bestM masks req cv = -1 from h1) (by omega)
  · have : bestM masks req cv = (k : Int) := h1
    rw [this]
    simpa using hk
theorem left_lt (req cv : Nat) : ∀ k ∈ leftM req cv, k < 64 := bits_lt _
theorem left_less (req cv m k : Nat) (hk : k ∈ leftM req cv) (hm : m.testBit k = true) : (leftM req (cv ||| m)).length < (leftM req cv).length := by
  have e : leftM req (cv ||| m) = (leftM req cv).filter fun j => !m.testBit j := by
    unfold leftM bitsOf
    rw [List.filter_filter]
    apply List.filter_congr
    intro j _
    simp only [Nat.testBit_xor, Nat.testBit_and, Nat.testBit_or]
    cases req.testBit j <;> cases cv.testBit j <;> cases m.testBit j <;> rfl
  rw [e]
  exact List.length_filter_lt_length_iff_exists.2 ⟨k, hk, by simp [hm]⟩
/-- What is still to try from the i-th mask on. -/
def kidsFrom (masks : List Nat) (cv : Nat) (seq : List Int) (col : Int) (i : Nat) : List (Nat × List Int) := ((List.range' i (masks.length - i)).filter (takesM masks cv col)).map fun i => (cv ||| masks.getD i 0, seq ++ [(i : Int)])
theorem kids_zero (masks : List Nat) (req cv : Nat) (seq : List Int) : kidsM masks req (cv, seq) = kidsFrom masks cv seq (bestM masks req cv) 0 := by
  unfold kidsM kidsFrom
  rw [List.range_eq_range']
  rfl
theorem kids_end (masks : List Nat) (cv : Nat) (seq : List Int) (col : Int) : kidsFrom masks cv seq col masks.length = [] := by
  unfold kidsFrom
  simp
theorem kids_next (masks : List Nat) (cv : Nat) (seq : List Int) (col : Int) (i : Nat) (h : i < masks.length) : kidsFrom masks cv seq col i = if takesM masks cv col i = true then (cv ||| masks[i], seq ++ [(i : Int)]) :: kidsFrom masks cv seq col (i + 1) else kidsFrom masks cv seq col (i + 1) := by
  unfold kidsFrom
  rw [show masks.length - i = (masks.length - (i + 1)) + 1 by omega, List.range'_succ, List.filter_cons]
  have e : masks.getD i 0 = masks[i] := by simp [h]
  split
  · rw [List.map_cons, e]
  · rfl
theorem takes_eq (masks : List Nat) (cv : Nat) (col : Int) (i : Nat) (h : i < masks.length) : takesM masks cv col i = (masks[i].testBit col.toNat && (masks[i] &&& cv == 0)) := by
  unfold takesM
  have e : masks.getD i 0 = masks[i] := by simp [h]
  rw [e]
section
variable {α : Type} (masks : List Nat) (req : Nat) (step : α → List Int → α × Bool)
abbrev fromM (d : Nat) (cv : Nat) (seq : List Int) (s : LS α) : LS α := fromG (leafM masks req) (kidsM masks req) 20000 step d (cv, seq) s
theorem from_lim (d cv : Nat) (seq : List Int) (s : LS α) (h : s.steps = 20000) : fromM masks req step d cv seq s = ⟨s.steps, s.ended, true, s.a⟩ := by
  unfold fromM fromG
  rw [if_pos h]
theorem from_leaf (d cv : Nat) (seq : List Int) (s : LS α) (h : s.steps ≠ 20000) (hb : bestM masks req cv < 0) : fromM masks req step d cv seq s = ⟨s.steps + 1, !(step s.a seq).2, s.broken, (step s.a seq).1⟩ := by
  unfold fromM fromG
  rw [if_neg h]
  have e : leafM masks req (cv, seq) = some seq := by unfold leafM; rw [if_pos hb]
  rw [e]
theorem from_kids (d cv : Nat) (seq : List Int) (s : LS α) (h : s.steps ≠ 20000) (hb : ¬ bestM masks req cv < 0) : fromM masks req step (d + 1) cv seq s = foldL (fun n => fromM masks req step d n.1 n.2) (kidsFrom masks cv seq (bestM masks req cv) 0) ⟨s.steps + 1, s.ended, s.broken, s.a⟩ := by
  unfold fromM
  rw [fromG.eq_def]
  dsimp only
  rw [if_neg h]
  have e : leafM masks req (cv, seq) = none := by unfold leafM; rw [if_neg hb]
  rw [e, kids_zero]
theorem from_steps (d : Nat) : ∀ (cv : Nat) (seq : List Int) (s : LS α), 0 ≤ s.steps ∧ s.steps ≤ 20000 → 0 ≤ (fromM masks req step d cv seq s).steps ∧ (fromM masks req step d cv seq s).steps ≤ 20000 := by
  induction d with
  | zero =>
    intro cv seq s hs
    unfold fromM fromG
    split
    · exact hs
    · split
      · dsimp only; omega
      · dsimp only; omega
  | succ d ih =>
    intro cv seq s hs
    unfold fromM
    rw [fromG.eq_def]
    dsimp only
    split
    · exact hs
    · split
      · dsimp only; omega
      · have : ∀ (l : List (Nat × List Int)) (s : LS α), 0 ≤ s.steps ∧ s.steps ≤ 20000 → 0 ≤ (foldL (fromG (leafM masks req) (kidsM masks req) 20000 step d) l s).steps ∧ (foldL (fromG (leafM masks req) (kidsM masks req) 20000 step d) l s).steps ≤ 20000 := by
          intro l
          induction l with
          | nil => intro s hs; exact hs
          | cons n l ihl =>
            intro s hs
            unfold foldL
            have h1 := ih n.1 n.2 s hs
            split
            · exact h1
            · exact ihl _ h1
        exact this _ _ ⟨by dsimp only; omega, by dsimp only; omega⟩
end
theorem test_shr (m : Nat) (col : Int) (h0 : 0 ≤ col) : ((m : Int) / 2 ^ col.toNat) = ((m >>> col.toNat : Nat) : Int) := by
  rw [Nat.shiftRight_eq_div_pow]
  simp
theorem bit_and (m k : Nat) : (m >>> k) &&& 1 = if m.testBit k = true then 1 else 0 := by
  rw [Nat.testBit, Nat.and_comm]
  have : m >>> k &&& 1 = (m >>> k) % 2 := Nat.and_one_is_mod _
  rw [Nat.and_comm 1, this]
  have := Nat.mod_two_eq_zero_or_one (m >>> k)
  rcases this with h | h <;> simp [h]
end Go.Proofs.YtoglcgnbkibpgaaDoorW.Cov

/- The program's search for covers, walked: it comes to what its plain twin comes to, for any visit. -/
namespace Go.Proofs.YtoglcgnbkibpgaaDoor.A
open Go.RowKit Go.Proofs.YtoglcgnbkibpgaaDoorW.PrintWords Go.Proofs.YtoglcgnbkibpgaaDoorW.PrintLast Go.Proofs.YtoglcgnbkibpgaaDoorW.PrintMore Go.Proofs.YtoglcgnbkibpgaaDoorW.Cov Go.Proofs.YtoglcgnbkibpgaaDoorW.Tree
set_option linter.unusedVariables false
set_option linter.unusedSimpArgs false
def impl_from.T5 : Bool × List (List Nat × List Nat) := (true, [([], []), ([], []), ([1], [1]), ([2], [2]), ([3], [3]), ([], []), ([5], [5]), ([6], [6]), ([7], [7]), ([4, 8], [4, 8]), ([9], [9]), ([0, 0, 1, 2, 3, 4, 5, 6, 7, 8, 9, 10], [0]), ([11, 0, 1, 2, 3, 4, 5, 6, 7, 8, 9, 10], [11]), ([12, 10, 9, 0, 1, 2, 3, 4, 5, 6, 7, 8, 9, 10], [10, 12])])
def impl_from.B5 : List Nat := [0, 0, 2, 6, 14, 0, 32, 96, 224, 510, 1022, 2047, 4095, 8191]
theorem impl_from.tab5 : rtab .any (opsOf Tryd.f53 5) = impl_from.T5 := by kernel_rfl
theorem impl_from.bits5 : waitsOk impl_from.T5.2 impl_from.B5 = true := by kernel_rfl
def impl_from.T12 : Bool × List (List Nat × List Nat) := (true, [([], []), ([], []), ([1], [1]), ([2], [2]), ([3], [3]), ([], []), ([5], [5]), ([6], [6]), ([7], [7]), ([8], [8]), ([9], [9]), ([4, 10], [4, 10]), ([0, 0, 1, 2, 3, 4, 5, 6, 7, 8, 9, 10, 11], [0]), ([12, 0, 1, 2, 3, 4, 5, 6, 7, 8, 9, 10, 11], [12]), ([13, 11, 0, 1, 2, 3, 4, 5, 6, 7, 8, 9, 10, 11], [11, 13])])
def impl_from.B12 : List Nat := [0, 0, 2, 6, 14, 0, 32, 96, 224, 480, 992, 2046, 4095, 8191, 16383]
theorem impl_from.tab12 : rtab .any (opsOf Tryd.f53 12) = impl_from.T12 := by kernel_rfl
theorem impl_from.bits12 : waitsOk impl_from.T12.2 impl_from.B12 = true := by kernel_rfl
section
variable {P : Program} {ops : Array Oper} {Q : Exit → Act → World → Prop}
theorem goesV_ {oi : Oper} {N : Option Tmp} {a : Act} {w : World} {K : Act → World → Prop} {f : FuncId} {fn : Func} {caps : Array Value} {az : Array Operand} {ts : Array TypeId} {x : Operand} (hf : P.funcs[f]? = some fn) (hname : (fn.name == "runtime.NumGoroutine") = false) (hb : fn.body.isSome = true) (args : Array Value)
    (hw : Region.wanted oi (yielded ops a.tmps) = true) (hN : oi.dst = N) (hop : oi.op = .call { callee := .value x, args := az, argTypes := ts }) (hx : a.eval x = .func (.func f) #[] caps) (hargs : az.map a.eval = args)
    (h : Calls P f (args ++ caps) w fun e w' => ∃ v, e = .returned v ∧ K (a.put N v) w') : if Region.wanted oi (yielded ops a.tmps) = true then Oper.wp P oi a w K Q else K (a.put N undef) w := by
 (refine call_ f (args ++ caps) hw hN ?_ h); (have he := enters_ hf hname hb (args ++ caps) w); (unfold execOp); (simp [hop, resolve, Deferred.ofValue, invoke, hx, hargs, he])
end
/-- What is known of the visited function: what it holds lies at V, and it does a step. -/
def VisC {α : Type} (V : α → Res) (w0 : World) (fv : Nat) (caps : Array Value) (step : α → List Int → α × Bool) (m : Nat) : Prop :=
  ∃ fn, Tryd.prog.funcs[fv]? = some fn ∧ (fn.name == "runtime.NumGoroutine") = false ∧ fn.body.isSome = true ∧
    ∀ (a : α) (seq : List Int) (rest : List Res) (w : World) (A : Option Addr) (c : Nat), seq.length ≤ 60 → (∀ j ∈ seq, 0 ≤ j ∧ j < (m : Int)) → Sp w0 ([V a, Res.row kI 2 w0.heap.size (.slice A (seq).length c) (seq)] ++ rest) w →
      Calls Tryd.prog fv (#[.slice A seq.length c] ++ caps) w fun e w' => e = .returned (.bool (step a seq).2) ∧ Sp w0 ([V (step a seq).1, Res.row kI 2 w0.heap.size (.slice A (seq).length c) (seq)] ++ rest) w'
set_option maxHeartbeats 4000000 in
set_option maxRecDepth 100000 in
theorem impl_from.calls' {α : Type} (V : α → Res) (w0 : World) (fv : Nat) (caps : Array Value) (step : α → List Int → α × Bool) (ms : List Nat) (hV : VisC V w0 fv caps step ms.length) (hm : ∀ m ∈ ms, m < 2 ^ 60) (hn : ms.length ≤ 400) (req : Nat) (hr : req < 2 ^ 60) (hT : TabAt 0 Lib.deBruijn64tab w0) (g : Nat) (Am : Option Addr) (cm : Nat) (hcm : ms.length ≤ cm) (d : Nat) :
    ∀ (cv : Nat) (seq : List Int) (s : LS α) (w : World) (rest : List Res) (Aq : Option Addr) (cq : Nat), cv < 2 ^ 60 → (∀ j ∈ seq, 0 ≤ j ∧ j < (ms.length : Int)) → seq.length + d ≤ 60 → (leftM req cv).length ≤ d → (0 ≤ s.steps ∧ s.steps ≤ 20000) → s.ended = false → s.broken = false →
      Sp w0 ([Res.blk g #[.slice Am ms.length cm, .int .u64 (req : Int), .int .i64 (s.steps), .slice Aq (seq).length cq, .func (.func fv) #[] caps, .bool s.ended, .bool s.broken] 64, Res.row kU 62 w0.heap.size (.slice Am ms.length cm) (ms.map fun (m : Nat) => (m : Int)), Res.row kI 2 w0.heap.size (.slice Aq (seq).length cq) (seq), V (s.a)] ++ rest) w →
      Calls Tryd.prog 53 #[.pointer (some ⟨g, 0, none⟩), .int .u64 (cv : Int)] w fun e w' => e = .returned (.tuple #[]) ∧ ∃ Aq' cq', Sp w0 ([Res.blk g #[.slice Am ms.length cm, .int .u64 (req : Int), .int .i64 ((fromM ms req step d cv seq s).steps), .slice Aq' (seq).length cq', .func (.func fv) #[] caps, .bool (fromM ms req step d cv seq s).ended, .bool (fromM ms req step d cv seq s).broken] 64, Res.row kU 62 w0.heap.size (.slice Am ms.length cm) (ms.map fun (m : Nat) => (m : Int)), Res.row kI 2 w0.heap.size (.slice Aq' (seq).length cq') (seq), V ((fromM ms req step d cv seq s).a)] ++ rest) w' := by
  have HM := A0_ hm
  have HN := A0_ hn
  have HRQ := A0_ hr
  have HT := A0_ hT
  obtain ⟨fn, hfn, hnm, hbd, hcall⟩ := hV
  clear hm hn hr hT
  induction d using Nat.strongRecOn with
  | _ d ih0 =>
  intro cv seq s w rest Aq cq hcv hsq0 hd hlf hst hse hsb hsp
  rw [hse, hsb] at hsp
  have HS := A0_ hsp
  have HCV := A0_ hcv
  have HSQ0 := A0_ hsq0
  have HD := A0_ hd
  have HLF := A0_ hlf
  have HST := A0_ hst
  have HSL := A0_ (show seq.length ≤ 60 by omega)
  clear hsp hcv hsq0 hd hlf hst
  have hw : wrap64 (s.steps + 1) = s.steps + 1 := by have := HST.out; unfold wrap64; omega
  have hg_ := (Sp.blk HS.out (i := 0) rfl).1
  have hy2 : w.cell? ⟨g, 2, none⟩ = some (.int .i64 s.steps) := (blk_cell hg_ 2).trans rfl
  have hy3 : w.cell? ⟨g, 3, none⟩ = some (.slice Aq seq.length cq) := (blk_cell hg_ 3).trans rfl
  have hy4 : w.cell? ⟨g, 4, none⟩ = some (.func (.func fv) #[] caps) := (blk_cell hg_ 4).trans rfl
  have hy5 : w.cell? ⟨g, 5, none⟩ = some (.bool false) := (blk_cell hg_ 5).trans rfl
  have hy6 : w.cell? ⟨g, 6, none⟩ = some (.bool false) := (blk_cell hg_ 6).trans rfl
  have hz2 := blk_frozen hg_ 2
  have hz6 := blk_frozen hg_ 6
  clear hg_
  have HS1 := A0_ (Sp.set HS.out 0 rfl 2 (.int .i64 (s.steps + 1)) (blk_put (cs' := #[.slice Am ms.length cm, .int .u64 (req : Int), .int .i64 (s.steps + 1), .slice Aq (seq).length cq, .func (.func fv) #[] caps, .bool false, .bool false]) (Sp.blk HS.out (i := 0) rfl).1 2 _ rfl))
  by_cases c : s.steps = 20000
  · have cb : (s.steps == 20000) = true := beq_iff_eq.2 c
    rw [from_lim ms req step d cv seq s c, hse]
    clear ih0 HS1
    go_enter Tryd.func53, Tryd.ntmps53
    go_wp2
    first | go_end0 | ((try simp only [Exit.inBlock, Exit.then]); refine bodyPost_ret (results_none rfl _ _ _) rfl ?_)
    exact ⟨rfl, Aq, cq, Sp.set HS.out 0 rfl 6 (.bool true) (blk_put (cs' := #[.slice Am ms.length cm, .int .u64 (req : Int), .int .i64 (s.steps), .slice Aq (seq).length cq, .func (.func fv) #[] caps, .bool false, .bool true]) (Sp.blk HS.out (i := 0) rfl).1 6 _ rfl)⟩
  · have cb : (s.steps == 20000) = false := beq_eq_false_iff_ne.2 c
    by_cases cl : bestM ms req cv < 0
    · rw [from_leaf ms req step d cv seq s c cl, hsb]
      have clb : decide (bestM ms req cv < 0) = true := decide_eq_true cl
      clear ih0 cl
      go_enter Tryd.func53, Tryd.ntmps53
      go_wp2_with (first | (go_at_call 68; refine (impl_bestColumn.calls' ms HM.out HN.out req cv HRQ.out HCV.out _ (fun j hj => pw_cell_below HS1.out.below (HT.out j hj)) g Am cm (by have := (Sp.reads HS1.out (i := 1) rfl).2.2; rwa [List.length_map] at this) hcm ((blk_cell (Sp.blk HS1.out (i := 0) rfl).1 0).trans rfl) ((blk_cell (Sp.blk HS1.out (i := 0) rfl).1 1).trans rfl)).mono ?_; rintro e w1 ⟨rfl, hb⟩; have HS_ := A0_ (Sp.far HS1.out hb); clear HS1 HS hb hy2 hy3 hy4 hy5 hy6 hz2 hz6; have HS := HS_; clear HS_; have hy0 := (blk_cell (Sp.blk HS.out (i := 0) rfl).1 0).trans rfl; (try rw [HCE.out])))
      have HS_ := A0_ (Sp.drew HS.out)
      clear HS
      have HS := HS_
      clear HS_
      refine start_ (n := 14) (S := fun w' => w'.cell? ⟨g, 3, none⟩ = some (.slice Aq seq.length cq) ∧ w'.cell? ⟨g, 4, none⟩ = some (.func (.func fv) #[] caps)) (ds := [13]) #[ff,ff,ff,ff,ff,ff,ff,ff,ff,ff,ff,ff,ff,ff] (by kernel_rfl) rfl rfl (⟨(blk_cell (Sp.blk HS.out (i := 0) rfl).1 3).trans rfl, (blk_cell (Sp.blk HS.out (i := 0) rfl).1 4).trans rfl⟩) (fun hHeld => ?_)
      refine with_tabW impl_from.tab5 impl_from.bits5 (fun HT_ HW_ => ?_)
      generalize w1.drew = wD at HS hHeld ⊢
      refine pure_ (i := 0) (N := some 27) (v := ?_) (a' := ?_) #[tt,ff,ff,ff,ff,ff,ff,ff,ff,ff,ff,ff,ff,ff] rfl rfl (any_of HT_.out (by kernel_rfl)) (fun _ _ _ h => h) (Or.inl ⟨by rfl, ?_⟩) ?_ ?_
      rotate_left
      · intro w'
        go_simp
        with_reducible rfl
      rotate_left
      · simp only [Act.put, sia_, sz_, ss_, i64_w, i32_w]
        rfl
      refine pure_ (i := 1) (N := some 28) (v := ?_) (a' := ?_) #[tt,tt,ff,ff,ff,ff,ff,ff,ff,ff,ff,ff,ff,ff] rfl rfl (any_of HT_.out (by kernel_rfl)) (fun _ _ _ h => h) (Or.inl ⟨by rfl, ?_⟩) ?_ ?_
      rotate_left
      · intro w'
        go_simp
        with_reducible rfl
      rotate_left
      · simp only [Act.put, sia_, sz_, ss_, i64_w, i32_w]
        rfl
      refine pure_ (i := 2) (N := some 29) (v := ?_) (a' := ?_) #[tt,tt,tt,ff,ff,ff,ff,ff,ff,ff,ff,ff,ff,ff] rfl rfl (any_of HT_.out (by kernel_rfl)) (fun _ _ _ h => h) (Or.inl ⟨by rfl, ?_⟩) ?_ ?_
      rotate_left
      · intro w'
        go_simp
        with_reducible rfl
      rotate_left
      · simp only [Act.put, sia_, sz_, ss_, i64_w, i32_w]
        rfl
      refine pure_ (i := 3) (N := some 30) (v := ?_) (a' := ?_) #[tt,tt,tt,tt,ff,ff,ff,ff,ff,ff,ff,ff,ff,ff] rfl rfl (any_of HT_.out (by kernel_rfl)) (fun _ _ _ h => h) (Or.inl ⟨by rfl, ?_⟩) ?_ ?_
      rotate_left
      · intro w'
        go_simp
        with_reducible rfl
      rotate_left
      · simp only [Act.put, sia_, sz_, ss_, i64_w, i32_w]
        rfl
      refine take_ (i := 4) (N := some 31) (v := ?_) (a' := ?_) #[tt,tt,tt,tt,tt,ff,ff,ff,ff,ff,ff,ff,ff,ff] rfl rfl (take_ofW HT_.out HW_.out (by kernel_rfl)) (fun _ _ _ h => h) (Or.inl ⟨by rfl, ?_⟩) hHeld ?_ ?_
      rotate_left
      · rintro w' ⟨s0, s1⟩
        go_simp
        with_reducible rfl
      rotate_left
      · simp only [Act.put, sia_, sz_, ss_, i64_w, i32_w]
        rfl
      refine pure_ (i := 5) (N := some 32) (v := ?_) (a' := ?_) #[tt,tt,tt,tt,tt,tt,ff,ff,ff,ff,ff,ff,ff,ff] rfl rfl (any_of HT_.out (by kernel_rfl)) (fun _ _ _ h => h) (Or.inl ⟨by rfl, ?_⟩) ?_ ?_
      rotate_left
      · intro w'
        go_simp
        with_reducible rfl
      rotate_left
      · simp only [Act.put, sia_, sz_, ss_, i64_w, i32_w]
        rfl
      refine pure_ (i := 6) (N := some 33) (v := ?_) (a' := ?_) #[tt,tt,tt,tt,tt,tt,tt,ff,ff,ff,ff,ff,ff,ff] rfl rfl (any_of HT_.out (by kernel_rfl)) (fun _ _ _ h => h) (Or.inl ⟨by rfl, ?_⟩) ?_ ?_
      rotate_left
      · intro w'
        go_simp
        with_reducible rfl
      rotate_left
      · simp only [Act.put, sia_, sz_, ss_, i64_w, i32_w]
        rfl
      refine pure_ (i := 7) (N := some 34) (v := ?_) (a' := ?_) #[tt,tt,tt,tt,tt,tt,tt,tt,ff,ff,ff,ff,ff,ff] rfl rfl (any_of HT_.out (by kernel_rfl)) (fun _ _ _ h => h) (Or.inl ⟨by rfl, ?_⟩) ?_ ?_
      rotate_left
      · intro w'
        go_simp
        with_reducible rfl
      rotate_left
      · simp only [Act.put, sia_, sz_, ss_, i64_w, i32_w]
        rfl
      refine take_ (i := 8) (N := some 35) (v := ?_) (a' := ?_) #[tt,tt,tt,tt,tt,tt,tt,tt,tt,ff,ff,ff,ff,ff] rfl rfl (take_ofW HT_.out HW_.out (by kernel_rfl)) (fun _ _ _ h => h) (Or.inl ⟨by rfl, ?_⟩) hHeld ?_ ?_
      rotate_left
      · rintro w' ⟨s0, s1⟩
        go_simp
        with_reducible rfl
      rotate_left
      · simp only [Act.put, sia_, sz_, ss_, i64_w, i32_w]
        rfl
      refine one_ (i := 9) (N := some 36) #[tt,tt,tt,tt,tt,tt,tt,tt,tt,tt,ff,ff,ff,ff] rfl rfl (one_of HT_.out (by kernel_rfl)) (by decide) (fun K hK => ?_)
      have HS_ := A0_ (Sp.arr (pre := [Res.blk g #[.slice Am ms.length cm, .int .u64 (req : Int), .int .i64 (s.steps + 1), .slice Aq (seq).length cq, .func (.func fv) #[] caps, .bool false, .bool false] 64, Res.row kU 62 w0.heap.size (.slice Am ms.length cm) (ms.map fun (m : Nat) => (m : Int)), Res.row kI 2 w0.heap.size (.slice Aq (seq).length cq) (seq), V (s.a)]) (pre' := [V (s.a), Res.row kI 2 w0.heap.size (.slice Aq (seq).length cq) (seq), Res.blk g #[.slice Am ms.length cm, .int .u64 (req : Int), .int .i64 (s.steps + 1), .slice Aq (seq).length cq, .func (.func fv) #[] caps, .bool false, .bool false] 64, Res.row kU 62 w0.heap.size (.slice Am ms.length cm) (ms.map fun (m : Nat) => (m : Int))]) (rest := rest) [3, 2, 0, 1] HS.out rfl rfl)
      clear HS
      have HS := HS_
      clear HS_
      refine goesV_ hfn hnm hbd #[.slice Aq seq.length cq] (by rfl) rfl rfl rfl (by (try simp only [List.map_toArray, List.map_cons, List.map_nil]); first | done | rfl | (simp only [List.length_drop, List.length_take]; rfl)) ?_
      refine (hcall s.a seq ([Res.blk g #[.slice Am ms.length cm, .int .u64 (req : Int), .int .i64 (s.steps + 1), .slice Aq (seq).length cq, .func (.func fv) #[] caps, .bool false, .bool false] 64, Res.row kU 62 w0.heap.size (.slice Am ms.length cm) (ms.map fun (m : Nat) => (m : Int))] ++ rest) _ Aq cq HSL.out HSQ0.out HS.out).mono ?_
      rintro e wB ⟨rfl, hs_⟩
      refine ⟨_, rfl, ?_⟩
      have HS_ := A0_ hs_
      clear HS hs_
      have HS := HS_
      clear HS_
      refine hK.out _ _ (⟨(blk_cell (Sp.blk HS.out (i := 2) rfl).1 3).trans rfl, (blk_cell (Sp.blk HS.out (i := 2) rfl).1 4).trans rfl⟩) (fun hHeld => ?_)
      clear hK K
      refine norm_ (a' := ?_) ?_ ?_
      rotate_left
      · show Act.put _ (some 36) _ = _
        simp only [Act.put, sia_, sz_, ss_, i64_w, i32_w]
        rfl
      refine pure_ (i := 10) (N := some 37) (v := ?_) (a' := ?_) #[tt,tt,tt,tt,tt,tt,tt,tt,tt,tt,tt,ff,ff,ff] rfl rfl (any_of HT_.out (by kernel_rfl)) (fun _ _ _ h => h) (Or.inl ⟨by rfl, ?_⟩) ?_ ?_
      rotate_left
      · intro w'
        go_simp
        with_reducible rfl
      rotate_left
      · simp only [Act.put, sia_, sz_, ss_, i64_w, i32_w]
        rfl
      refine pure_ (i := 11) (N := some 38) (v := ?_) (a' := ?_) #[tt,tt,tt,tt,tt,tt,tt,tt,tt,tt,tt,tt,ff,ff] rfl rfl (any_of HT_.out (by kernel_rfl)) (fun _ _ _ h => h) (Or.inl ⟨by rfl, ?_⟩) ?_ ?_
      rotate_left
      · intro w'
        go_simp
        with_reducible rfl
      rotate_left
      · simp only [Act.put, sia_, sz_, ss_, i64_w, i32_w]
        rfl
      refine pure_ (i := 12) (N := some 39) (v := ?_) (a' := ?_) #[tt,tt,tt,tt,tt,tt,tt,tt,tt,tt,tt,tt,tt,ff] rfl rfl (any_of HT_.out (by kernel_rfl)) (fun _ _ _ h => h) (Or.inl ⟨by rfl, ?_⟩) ?_ ?_
      rotate_left
      · intro w'
        go_simp
        with_reducible rfl
      rotate_left
      · simp only [Act.put, sia_, sz_, ss_, i64_w, i32_w]
        rfl
      refine last_ (i := 13) (N := none) #[tt,tt,tt,tt,tt,tt,tt,tt,tt,tt,tt,tt,tt,tt] rfl rfl (one_of HT_.out (by kernel_rfl)) (by decide) (fun K hK => ?_)
      have hz_ := blk_frozen (Sp.blk HS.out (i := 2) rfl).1 5
      have hy_ : wB.cell? ⟨g, 5, none⟩ = some (.bool false) := (blk_cell (Sp.blk HS.out (i := 2) rfl).1 5).trans rfl
      refine skip_ (w1 := wB.setCell ⟨g, 5, none⟩ (.bool (!(step s.a seq).2))) (by rfl) rfl (by first | (go_simp; done) | (go_simp; rfl)) ?_
      have HS_ := A0_ (Sp.set HS.out 2 rfl 5 (.bool (!(step s.a seq).2)) (blk_put (cs' := #[.slice Am ms.length cm, .int .u64 (req : Int), .int .i64 (s.steps + 1), .slice Aq (seq).length cq, .func (.func fv) #[] caps, .bool (!(step s.a seq).2), .bool false]) (Sp.blk HS.out (i := 2) rfl).1 5 _ rfl))
      clear HS
      have HS := HS_
      clear HS_
      clear hz_ hy_
      refine hK.out _ _ ?_
      clear hK K
      refine done_ (done_of HT_.out (by kernel_rfl)) ?_
      have HS_ := A0_ (Sp.arr (pre := [V ((step s.a seq).1), Res.row kI 2 w0.heap.size (.slice Aq (seq).length cq) (seq), Res.blk g #[.slice Am ms.length cm, .int .u64 (req : Int), .int .i64 (s.steps + 1), .slice Aq (seq).length cq, .func (.func fv) #[] caps, .bool (!(step s.a seq).2), .bool false] 64, Res.row kU 62 w0.heap.size (.slice Am ms.length cm) (ms.map fun (m : Nat) => (m : Int))]) (pre' := [Res.blk g #[.slice Am ms.length cm, .int .u64 (req : Int), .int .i64 (s.steps + 1), .slice Aq (seq).length cq, .func (.func fv) #[] caps, .bool (!(step s.a seq).2), .bool false] 64, Res.row kU 62 w0.heap.size (.slice Am ms.length cm) (ms.map fun (m : Nat) => (m : Int)), Res.row kI 2 w0.heap.size (.slice Aq (seq).length cq) (seq), V ((step s.a seq).1)]) (rest := rest) [2, 3, 1, 0] HS.out rfl rfl)
      clear HS
      have HS := HS_
      clear HS_
      try go_wp2
      first | go_end0 | ((try simp only [Exit.inBlock, Exit.then]); refine bodyPost_ret (results_none rfl _ _ _) rfl ?_)
      exact ⟨rfl, Aq, cq, HS.out⟩
    · have hbm := best_mem ms req cv (by omega)
      have h1 : 1 ≤ d := by have := HLF.out; have := List.length_pos_of_mem hbm; omega
      obtain ⟨d, rfl⟩ : ∃ d', d = d' + 1 := ⟨d - 1, by omega⟩
      rw [from_kids ms req step d cv seq s c cl]
      obtain ⟨col, hcol⟩ : ∃ col, col = bestM ms req cv := ⟨_, rfl⟩
      rw [← hcol] at hbm cl ⊢
      have HCE := A0_ hcol.symm
      obtain ⟨R, hRe⟩ : ∃ R, R = foldL (fun n => fromM ms req step d n.1 n.2) (kidsFrom ms cv seq col 0) ⟨s.steps + 1, s.ended, s.broken, s.a⟩ := ⟨_, rfl⟩
      rw [← hRe]
      have HR0 := A0_ hRe.symm
      rw [hse, hsb] at HR0
      have HBM := A0_ hbm
      have IH := A0_ (ih0 d (by omega))
      have HCL := A0_ (show 0 ≤ col by omega)
      have clb : decide (col < 0) = false := decide_eq_false cl
      have HCB := A0_ (show col.toNat < 64 from left_lt req cv _ hbm)
      have HSS0 := A0_ (show (0 ≤ s.steps + 1 ∧ s.steps + 1 ≤ 20000) from by have := HST.out; omega)
      clear ih0 hRe hbm h1 hcol cl
      go_enter Tryd.func53, Tryd.ntmps53
      go_wp2_with (first | (go_at_call 68; refine (impl_bestColumn.calls' ms HM.out HN.out req cv HRQ.out HCV.out _ (fun j hj => pw_cell_below HS1.out.below (HT.out j hj)) g Am cm (by have := (Sp.reads HS1.out (i := 1) rfl).2.2; rwa [List.length_map] at this) hcm ((blk_cell (Sp.blk HS1.out (i := 0) rfl).1 0).trans rfl) ((blk_cell (Sp.blk HS1.out (i := 0) rfl).1 1).trans rfl)).mono ?_; rintro e w1 ⟨rfl, hb⟩; have HS_ := A0_ (Sp.far HS1.out hb); clear HS1 HS hb hy2 hy3 hy4 hy5 hy6 hz2 hz6; have HS := HS_; clear HS_; have hy0 := (blk_cell (Sp.blk HS.out (i := 0) rfl).1 0).trans rfl; (try rw [HCE.out])))
      go_loopg [45] (ms.length + 1) (fun kq v45 w' => ∃ (i : Nat) (s' : LS α) (A5 : Option Addr) (c5 : Nat), v45 = .int .i64 (i : Int) ∧ Aside0 (i ≤ ms.length ∧ kq + i = ms.length + 1) ∧ Aside0 ((0 ≤ s'.steps ∧ s'.steps ≤ 20000) ∧ s'.ended = false ∧ s'.broken = false) ∧ Aside0 (foldL (fun n => fromM ms req step d n.1 n.2) (kidsFrom ms cv seq col i) s' = R) ∧ Aside0 (Sp w0 ([Res.blk g #[.slice Am ms.length cm, .int .u64 (req : Int), .int .i64 (s'.steps), .slice A5 (seq).length c5, .func (.func fv) #[] caps, .bool false, .bool false] 64, Res.row kU 62 w0.heap.size (.slice Am ms.length cm) (ms.map fun (m : Nat) => (m : Int)), Res.row kI 2 w0.heap.size (.slice A5 (seq).length c5) (seq), V (s'.a)] ++ rest) w'))
      case atStart => exact ⟨0, ⟨s.steps + 1, false, false, s.a⟩, Aq, cq, rfl, ⟨by omega, by omega⟩, ⟨HSS0.out, rfl, rfl⟩, HR0, HS⟩
      case round =>
        clear HS HSS0 HR0
        obtain ⟨i, s', A5, c5, rfl, HX, HSS, HR, HS⟩ := hrel
        obtain ⟨k1, rfl⟩ : ∃ k1, gk = k1 + 1 := ⟨gk - 1, by have := HX.out; omega⟩
        by_cases ci : i < ms.length
        · have ci0 : decide (i < ms.length) = true := decide_eq_true ci
          have ci1 := eq_true ci
          have hml := (Sp.reads HS.out (i := 1) rfl).2.2
          obtain ⟨ad, e, hx⟩ := Kd.at_int hml (i : Int) (by omega) (by rw [List.length_map]; omega)
          cases e
          have er : rd (ms.map fun (m : Nat) => (m : Int)) (i : Int) = ((ms[i] : Nat) : Int) := by rw [rd_nat _ i (by rw [List.length_map]; exact ci)]; simp
          rw [er, Int.toNat_natCast] at hx
          obtain ⟨m, hmm⟩ : ∃ m, m = ms[i] := ⟨_, rfl⟩
          rw [← hmm] at hx
          have hm60 := HM.out ms[i] (List.getElem_mem ci)
          rw [← hmm] at hm60
          have two60 : (2 : Nat) ^ 60 < 18446744073709551616 := by decide
          have hcv60 := HCV.out
          have HC := A0_ ci
          have HWI := A0_ (wrap_succ i (by have := HN.out; have := HX.out; omega))
          have hkn := kids_next ms cv seq col i ci
          rw [takes_eq ms cv col i ci, ← hmm] at hkn
          clear er hml hmm ci
          have hcl0 : 0 ≤ col := HCL.out
          have hcl1 : col < 64 := by have := HCB.out; omega
          have hsh : ((m : Int) / 2 ^ col.toNat) = ((m >>> col.toNat : Nat) : Int) := test_shr m col hcl0
          have hlt : m >>> col.toNat < 18446744073709551616 := Nat.lt_of_le_of_lt (Nat.shiftRight_le m _) (by omega)
          have E1 : bits .and .u64 ((m : Int) / 2 ^ col.toNat) 1 = (((m >>> col.toNat) &&& 1 : Nat) : Int) := by rw [hsh]; exact u64_and_nat _ 1 hlt (by decide)
          rw [bit_and] at E1
          have E2 := A0_ (u64_and_nat m cv (by omega) (by omega))
          have hcu : IntKind.u64.wrap col = col := by rw [IntKind.wrap_u64]; omega
          have HCU := A0_ hcu
          clear hsh hlt hcu
          by_cases ct : m.testBit col.toNat = true
          · rw [if_pos ct] at E1
            have E1 := A0_ E1
            by_cases cm0 : m &&& cv = 0
            · rw [cm0] at E2
              rw [ct, cm0, if_pos (show (true && ((0 : Nat) == 0)) = true from rfl)] at hkn
              have HCV2 := A0_ (show cv ||| m < 2 ^ 60 from Nat.or_lt_two_pow hcv60 hm60)
              have HOR := A0_ (u64_or_nat cv m (by omega) (by omega))
              obtain ⟨sq2, hsq⟩ : ∃ sq2, sq2 = seq ++ [(i : Int)] := ⟨_, rfl⟩
              rw [← hsq] at hkn
              have HSQ := A0_ hsq
              have HSQ2 := A0_ (show ∀ j ∈ sq2, 0 ≤ j ∧ j < (ms.length : Int) from fun j hj => by rw [hsq, List.mem_append, List.mem_singleton] at hj; rcases hj with hj | rfl; exact HSQ0.out j hj; exact ⟨by omega, by have := HC.out; omega⟩)
              have HD2 := A0_ (show sq2.length + d ≤ 60 by have := HD.out; rw [hsq, List.length_append, List.length_singleton]; omega)
              have HL2 := A0_ (show (leftM req (cv ||| m)).length ≤ d by have := left_less req cv m _ HBM.out ct; have := HLF.out; omega)
              obtain ⟨R1, hR1⟩ : ∃ R1, R1 = fromM ms req step d (cv ||| m) sq2 s' := ⟨_, rfl⟩
              have HR1 := A0_ hR1.symm
              have HR2 := A0_ (show (if stopL R1 = true then R1 else foldL (fun n => fromM ms req step d n.1 n.2) (kidsFrom ms cv seq col (i + 1)) R1) = R from by rw [hR1, ← HR.out, hkn]; rfl)
              have hg_ := (Sp.blk HS.out (i := 0) rfl).1
              have hy3 : wr.cell? ⟨g, 3, none⟩ = some (.slice A5 seq.length c5) := (blk_cell hg_ 3).trans rfl
              have hz3 := blk_frozen hg_ 3
              have hsl : ((sq2.length : Nat) : Int) - 1 = (seq.length : Int) := by rw [hsq]; simp
              have HSL2 := A0_ hsl
              have HW2 := A0_ (show wrap64 ((sq2.length : Int) - 1) = (seq.length : Int) by rw [hsl]; have := HSL.out; unfold wrap64; omega)
              have HS2L := A0_ (show seq.length ≤ sq2.length by omega)
              clear hg_ hkn hR1 HR ct cm0 hsq hsl
              go_wp2_with (first
                | rw [E1.out] | rw [E2.out] | rw [HOR.out]
                | ((with_reducible refine gate_builtin (b := .append) (xs := #[.tmp 66, .tmp 68]) rfl ?_); at_builtin; obtain ⟨fp_, ho_, hf_, hc_⟩ := Sp.row HS.out (i := 2) rfl; refine Kd.R_append kI (w0 := w0) w0.heap.size rfl (.tmp 66) (.tmp 68) 32 2 (.int .i64 0) 8 rfl Tryd.underlying32 info2 rfl (by decide) (by omega) (.slice A5 seq.length c5) seq (i : Int) [.int .i64 (i : Int)] (fun k => fp_ k ∨ wr.heap.size ≤ k) (fun _ => False) rfl rfl rfl (fun _ hk => hk.elim) (fun _ h => .inr h) ho_ HS.out.below HS.out.below.size ?aL ?_; (case aL => have := HD.out; omega); intro v1 w2 ho hb hg hat; rw [← HSQ.out] at ho; have HS2 := A0_ (hc_ _ _ _ ho hg); clear ho hb hg hat hc_ hf_ ho_ hy3 hz3 HS fp_; obtain ⟨A6, c6, e2⟩ := Sp.slice HS2.out (i := 2) rfl; subst e2; have hg_ := (Sp.blk HS2.out (i := 0) rfl).1; have hy3 := (blk_cell hg_ 3).trans rfl; have hz3 := blk_frozen hg_ 3; clear hg_; have HS3 := A0_ (Sp.set HS2.out 0 rfl 3 (.slice A6 sq2.length c6) (blk_put (cs' := #[.slice (some ad) ms.length cm, .int .u64 (req : Int), .int .i64 (s'.steps), .slice A6 (sq2).length c6, .func (.func fv) #[] caps, .bool false, .bool false]) (Sp.blk HS2.out (i := 0) rfl).1 3 _ rfl)); clear HS2)
                | (go_at_call 53; refine (IH.out (cv ||| m) sq2 s' _ rest A6 c6 HCV2.out HSQ2.out HD2.out HL2.out HSS.out.1 HSS.out.2.1 HSS.out.2.2 (by have := HS3.out; rw [HSS.out.2.1, HSS.out.2.2]; exact this)).mono ?_; rintro e wB ⟨rfl, A7, c7, hs_⟩; have HS := A0_ hs_; clear HS3 hs_))
              rw [HR1.out] at HS
              have HCAP := A0_ (Sp.reads HS.out (i := 2) rfl).2.1
              have HS_ := A0_ (Sp.drew HS.out)
              clear HS
              have HS := HS_
              clear HS_
              refine start_ (n := 15) (S := fun w' => w'.cell? ⟨g, 3, none⟩ = some (.slice A7 sq2.length c7)) (ds := [14]) #[ff,ff,ff,ff,ff,ff,ff,ff,ff,ff,ff,ff,ff,ff,ff] (by kernel_rfl) rfl rfl ((blk_cell (Sp.blk HS.out (i := 0) rfl).1 3).trans rfl) (fun hHeld => ?_)
              refine with_tabW impl_from.tab12 impl_from.bits12 (fun HT_ HW_ => ?_)
              generalize wB.drew = wD at HS hHeld ⊢
              refine pure_ (i := 0) (N := some 77) (v := ?_) (a' := ?_) #[tt,ff,ff,ff,ff,ff,ff,ff,ff,ff,ff,ff,ff,ff,ff] rfl rfl (any_of HT_.out (by kernel_rfl)) (fun _ _ _ h => h) (Or.inl ⟨by rfl, ?_⟩) ?_ ?_
              rotate_left
              · intro w'
                go_simp
                with_reducible rfl
              rotate_left
              · simp only [Act.put, sia_, sz_, ss_, i64_w, i32_w]
                rfl
              refine pure_ (i := 1) (N := some 78) (v := ?_) (a' := ?_) #[tt,tt,ff,ff,ff,ff,ff,ff,ff,ff,ff,ff,ff,ff,ff] rfl rfl (any_of HT_.out (by kernel_rfl)) (fun _ _ _ h => h) (Or.inl ⟨by rfl, ?_⟩) ?_ ?_
              rotate_left
              · intro w'
                go_simp
                with_reducible rfl
              rotate_left
              · simp only [Act.put, sia_, sz_, ss_, i64_w, i32_w]
                rfl
              refine pure_ (i := 2) (N := some 79) (v := ?_) (a' := ?_) #[tt,tt,tt,ff,ff,ff,ff,ff,ff,ff,ff,ff,ff,ff,ff] rfl rfl (any_of HT_.out (by kernel_rfl)) (fun _ _ _ h => h) (Or.inl ⟨by rfl, ?_⟩) ?_ ?_
              rotate_left
              · intro w'
                go_simp
                with_reducible rfl
              rotate_left
              · simp only [Act.put, sia_, sz_, ss_, i64_w, i32_w]
                rfl
              refine pure_ (i := 3) (N := some 80) (v := ?_) (a' := ?_) #[tt,tt,tt,tt,ff,ff,ff,ff,ff,ff,ff,ff,ff,ff,ff] rfl rfl (any_of HT_.out (by kernel_rfl)) (fun _ _ _ h => h) (Or.inl ⟨by rfl, ?_⟩) ?_ ?_
              rotate_left
              · intro w'
                go_simp
                with_reducible rfl
              rotate_left
              · simp only [Act.put, sia_, sz_, ss_, i64_w, i32_w]
                rfl
              refine take_ (i := 4) (N := some 81) (v := ?_) (a' := ?_) #[tt,tt,tt,tt,tt,ff,ff,ff,ff,ff,ff,ff,ff,ff,ff] rfl rfl (take_ofW HT_.out HW_.out (by kernel_rfl)) (fun _ _ _ h => h) (Or.inl ⟨by rfl, ?_⟩) hHeld ?_ ?_
              rotate_left
              · rintro w' s0
                go_simp
                with_reducible rfl
              rotate_left
              · simp only [Act.put, sia_, sz_, ss_, i64_w, i32_w]
                rfl
              refine pure_ (i := 5) (N := some 82) (v := ?_) (a' := ?_) #[tt,tt,tt,tt,tt,tt,ff,ff,ff,ff,ff,ff,ff,ff,ff] rfl rfl (any_of HT_.out (by kernel_rfl)) (fun _ _ _ h => h) (Or.inl ⟨by rfl, ?_⟩) ?_ ?_
              rotate_left
              · intro w'
                go_simp
                with_reducible rfl
              rotate_left
              · simp only [Act.put, sia_, sz_, ss_, i64_w, i32_w]
                rfl
              refine pure_ (i := 6) (N := some 83) (v := ?_) (a' := ?_) #[tt,tt,tt,tt,tt,tt,tt,ff,ff,ff,ff,ff,ff,ff,ff] rfl rfl (any_of HT_.out (by kernel_rfl)) (fun _ _ _ h => h) (Or.inl ⟨by rfl, ?_⟩) ?_ ?_
              rotate_left
              · intro w'
                go_simp
                with_reducible rfl
              rotate_left
              · simp only [Act.put, sia_, sz_, ss_, i64_w, i32_w]
                rfl
              refine pure_ (i := 7) (N := some 84) (v := ?_) (a' := ?_) #[tt,tt,tt,tt,tt,tt,tt,tt,ff,ff,ff,ff,ff,ff,ff] rfl rfl (any_of HT_.out (by kernel_rfl)) (fun _ _ _ h => h) (Or.inl ⟨by rfl, ?_⟩) ?_ ?_
              rotate_left
              · intro w'
                go_simp
                with_reducible rfl
              rotate_left
              · simp only [Act.put, sia_, sz_, ss_, i64_w, i32_w]
                rfl
              refine take_ (i := 8) (N := some 85) (v := ?_) (a' := ?_) #[tt,tt,tt,tt,tt,tt,tt,tt,tt,ff,ff,ff,ff,ff,ff] rfl rfl (take_ofW HT_.out HW_.out (by kernel_rfl)) (fun _ _ _ h => h) (Or.inl ⟨by rfl, ?_⟩) hHeld ?_ ?_
              rotate_left
              · rintro w' s0
                go_simp
                with_reducible rfl
              rotate_left
              · simp only [Act.put, sia_, sz_, ss_, i64_w, i32_w]
                rfl
              refine pure_ (i := 9) (N := some 86) (v := ?_) (a' := ?_) #[tt,tt,tt,tt,tt,tt,tt,tt,tt,tt,ff,ff,ff,ff,ff] rfl rfl (any_of HT_.out (by kernel_rfl)) (fun _ _ _ h => h) (Or.inl ⟨by rfl, ?_⟩) ?_ ?_
              rotate_left
              · intro w'
                go_simp
                with_reducible rfl
              rotate_left
              · simp only [Act.put, sia_, sz_, ss_, i64_w, i32_w]
                rfl
              refine pure_ (i := 10) (N := some 87) (v := ?_) (a' := ?_) #[tt,tt,tt,tt,tt,tt,tt,tt,tt,tt,tt,ff,ff,ff,ff] rfl rfl (any_of HT_.out (by kernel_rfl)) (fun _ _ _ h => h) (Or.inl ⟨by rfl, ?_⟩) ?_ ?_
              rotate_left
              · intro w'
                go_simp
                with_reducible rfl
              rotate_left
              · simp only [Act.put, sia_, sz_, ss_, i64_w, i32_w]
                rfl
              refine pure_ (i := 11) (N := some 88) (v := ?_) (a' := ?_) #[tt,tt,tt,tt,tt,tt,tt,tt,tt,tt,tt,tt,ff,ff,ff] rfl rfl (any_of HT_.out (by kernel_rfl)) (fun _ _ _ h => h) (Or.inl ⟨by rfl, ?_⟩) ?_ ?_
              rotate_left
              · intro w'
                have hq1 := HW2.out
                have hq2 : seq.length ≤ c7 := Nat.le_trans HS2L.out HCAP.out
                have hq3 : (seq.length : Int) ≤ (c7 : Int) := Int.ofNat_le.2 hq2
                go_simp
                with_reducible rfl
              rotate_left
              · simp only [Act.put, sia_, sz_, ss_, i64_w, i32_w]
                rfl
              refine pure_ (i := 12) (N := some 89) (v := ?_) (a' := ?_) #[tt,tt,tt,tt,tt,tt,tt,tt,tt,tt,tt,tt,tt,ff,ff] rfl rfl (any_of HT_.out (by kernel_rfl)) (fun _ _ _ h => h) (Or.inl ⟨by rfl, ?_⟩) ?_ ?_
              rotate_left
              · intro w'
                go_simp
                with_reducible rfl
              rotate_left
              · simp only [Act.put, sia_, sz_, ss_, i64_w, i32_w]
                rfl
              refine pure_ (i := 13) (N := some 90) (v := ?_) (a' := ?_) #[tt,tt,tt,tt,tt,tt,tt,tt,tt,tt,tt,tt,tt,tt,ff] rfl rfl (any_of HT_.out (by kernel_rfl)) (fun _ _ _ h => h) (Or.inl ⟨by rfl, ?_⟩) ?_ ?_
              rotate_left
              · intro w'
                go_simp
                with_reducible rfl
              rotate_left
              · simp only [Act.put, sia_, sz_, ss_, i64_w, i32_w]
                rfl
              refine last_ (i := 14) (N := none) #[tt,tt,tt,tt,tt,tt,tt,tt,tt,tt,tt,tt,tt,tt,tt] rfl rfl (one_of HT_.out (by kernel_rfl)) (by decide) (fun K hK => ?_)
              have hz_ := blk_frozen (Sp.blk HS.out (i := 0) rfl).1 3
              have hy_ : wD.cell? ⟨g, 3, none⟩ = some (.slice A7 sq2.length c7) := (blk_cell (Sp.blk HS.out (i := 0) rfl).1 3).trans rfl
              refine skip_ (w1 := wD.setCell ⟨g, 3, none⟩ (.slice A7 seq.length c7)) (by rfl) rfl (by first | (go_simp; done) | (go_simp; rfl)) ?_
              have HS_ := A0_ (Sp.set HS.out 0 rfl 3 (.slice A7 seq.length c7) (blk_put (cs' := #[.slice (some ad) ms.length cm, .int .u64 (req : Int), .int .i64 (R1.steps), .slice A7 (seq).length c7, .func (.func fv) #[] caps, .bool R1.ended, .bool R1.broken]) (Sp.blk HS.out (i := 0) rfl).1 3 _ rfl))
              clear HS
              have HS := HS_
              clear HS_
              clear hz_ hy_
              refine hK.out _ _ ?_
              clear hK K
              refine done_ (done_of HT_.out (by kernel_rfl)) ?_
              have HS_ := A0_ (Sp.take HS.out (i := 2) rfl seq.length (by rw [HSQ.out]; simp))
              clear HS
              have HS := HS_
              clear HS_
              have HS_ := A0_ (show Sp w0 ([Res.blk g #[.slice (some ad) ms.length cm, .int .u64 (req : Int), .int .i64 (R1.steps), .slice A7 (seq).length c7, .func (.func fv) #[] caps, .bool R1.ended, .bool R1.broken] 64, Res.row kU 62 w0.heap.size (.slice (some ad) ms.length cm) (ms.map fun (m : Nat) => (m : Int)), Res.row kI 2 w0.heap.size (.slice A7 (seq).length c7) (seq), V (R1.a)] ++ rest) _ from by have := HS.out; have e_ : sq2.take seq.length = seq := (by rw [HSQ.out]; simp); rw [e_] at this; exact this)
              clear HS
              have HS := HS_
              clear HS_
              generalize (wD.setCell ⟨g, 3, none⟩ (.slice A7 seq.length c7)) = wE at HS ⊢
              have hg_ := (Sp.blk HS.out (i := 0) rfl).1
              have hy5 : wE.cell? ⟨g, 5, none⟩ = some (.bool R1.ended) := (blk_cell hg_ 5).trans rfl
              have hy6 : wE.cell? ⟨g, 6, none⟩ = some (.bool R1.broken) := (blk_cell hg_ 6).trans rfl
              clear hg_
              cases he : R1.ended with
              | true =>
                rw [he] at hy5
                go_wp2
                first | go_end0 | ((try simp only [Exit.inBlock, Exit.then]); refine bodyPost_ret (results_none rfl _ _ _) rfl ?_)
                have er : R = R1 := by rw [← HR2.out, if_pos (by unfold stopL; rw [he]; rfl)]
                subst er
                exact ⟨rfl, A7, c7, HS.out⟩
              | false =>
                rw [he] at hy5
                cases hk : R1.broken with
                | true =>
                  rw [hk] at hy6
                  go_wp2
                  first | go_end0 | ((try simp only [Exit.inBlock, Exit.then]); refine bodyPost_ret (results_none rfl _ _ _) rfl ?_)
                  have er : R = R1 := by rw [← HR2.out, if_pos (by unfold stopL; rw [he, hk]; rfl)]
                  subst er
                  exact ⟨rfl, A7, c7, HS.out⟩
                | false =>
                  rw [hk] at hy6
                  have HR3 := A0_ (show foldL (fun n => fromM ms req step d n.1 n.2) (kidsFrom ms cv seq col (i + 1)) R1 = R from by rw [← HR2.out, if_neg (by unfold stopL; rw [he, hk]; decide)])
                  rw [he, hk] at HS
                  go_wp2
                  go_roundg k1
                  case measure => omega
                  case rel =>
                    rw [HWI.out]
                    exact ⟨i + 1, R1, A7, c7, rfl, ⟨by have := HC.out; omega, by have := HX.out; omega⟩, ⟨by rw [← HR1.out]; exact from_steps ms req step d _ _ _ HSS.out.1, he, hk⟩, HR3, HS⟩
            · obtain ⟨p, hp⟩ : ∃ p, p = m &&& cv := ⟨_, rfl⟩
              rw [← hp] at E2 cm0
              have p0 : (p = 0) = False := eq_false cm0
              have cm1 := A0_ cm0
              have HK := A0_ (show foldL (fun n => fromM ms req step d n.1 n.2) (kidsFrom ms cv seq col (i + 1)) s' = foldL (fun n => fromM ms req step d n.1 n.2) (kidsFrom ms cv seq col i) s' by
                rw [hkn, if_neg (by rw [ct, ← hp]; simpa using cm0)])
              clear hkn hp cm0 ct
              have p1 : ((p : Int) != 0) = true := by simpa using cm1.out
              have p2 : (p != 0) = true := by simpa using cm1.out
              go_wp2_with (first | rw [E1.out] | rw [E2.out])
              go_roundg k1
              case measure => omega
              case rel =>
                rw [HWI.out]
                exact ⟨i + 1, s', A5, c5, rfl, ⟨by have := HC.out; omega, by have := HX.out; omega⟩, HSS, ⟨HK.out.trans HR.out⟩, HS⟩
          · have HK := A0_ (show foldL (fun n => fromM ms req step d n.1 n.2) (kidsFrom ms cv seq col (i + 1)) s' = foldL (fun n => fromM ms req step d n.1 n.2) (kidsFrom ms cv seq col i) s' by
              rw [hkn, if_neg (by rw [Bool.eq_false_iff.2 ct]; simp)])
            rw [if_neg ct] at E1
            have E1 := A0_ E1
            clear hkn ct
            go_wp2_with (first | rw [E1.out] | rw [E2.out])
            go_roundg k1
            case measure => omega
            case rel =>
              rw [HWI.out]
              exact ⟨i + 1, s', A5, c5, rfl, ⟨by have := HC.out; omega, by have := HX.out; omega⟩, HSS, ⟨HK.out.trans HR.out⟩, HS⟩
        · have ci0 : decide (i < ms.length) = false := decide_eq_false ci
          have hi : i = ms.length := by have := HX.out; omega
          have er : R = s' := by have := HR.out; rw [hi, kids_end] at this; exact this.symm
          have HER := A0_ er
          clear ci hi er
          go_wp2
          first | go_end0 | ((try simp only [Exit.inBlock, Exit.then]); refine bodyPost_ret (results_none rfl _ _ _) rfl ?_)
          rw [HER.out, HSS.out.2.1, HSS.out.2.2]
          exact ⟨rfl, A5, c5, HS.out⟩
end Go.Proofs.YtoglcgnbkibpgaaDoor.A

/- impl.searched, walked, for any visit; CountNodes and CountCovers of the program. -/
namespace Go.Proofs.YtoglcgnbkibpgaaDoor.A
open Go.RowKit Go.Proofs.YtoglcgnbkibpgaaDoorW.PrintWords Go.Proofs.YtoglcgnbkibpgaaDoorW.PrintLast Go.Proofs.YtoglcgnbkibpgaaDoorW.PrintMore Go.Proofs.YtoglcgnbkibpgaaDoorW.Cov Go.Proofs.YtoglcgnbkibpgaaDoorW.Tree
set_option linter.unusedVariables false
set_option linter.unusedSimpArgs false
/-- The code that the search's end gives. -/
def codeL (broken : Bool) : Int := if broken = true then 3 else 0
/-- The program's search at its end. -/
def endL {α : Type} (rows : List (List Int)) (Q : Int) (step : α → List Int → α × Bool) (a0 : α) : LS α := fromG (leafC rows Q.toNat) (kidsC rows Q.toNat) 20000 step Q.toNat [] ⟨0, false, false, a0⟩
theorem end_eq {α : Type} {C Q : Int} {rows : List (List Int)} (h : CovOk C Q rows) (step : α → List Int → α × Bool) (a0 : α) : fromM (rows.map maskOf) (2 ^ Q.toNat - 1) step Q.toNat 0 [] ⟨0, false, false, a0⟩ = endL rows Q step a0 :=
  from_same (rows := rows) (C := C.toNat) (Q := Q.toNat) ⟨fun r hr x hx => by have := h.ins r hr x hx; have := h.c1; omega, by have := h.c60; omega, by have := h.qc; omega⟩ 20000 step Q.toNat ⟨0, false, false, a0⟩
theorem left_all (q : Nat) (h : q ≤ 60) : (leftM (2 ^ q - 1) 0).length ≤ q := by
  unfold leftM bitsOf
  have e : (List.range 64).filter (fun k => ((2 ^ q - 1) ^^^ ((2 ^ q - 1) &&& 0)).testBit k) = (List.range 64).filter (fun k => decide (k < q)) := by
    apply List.filter_congr
    intro k _
    rw [Nat.and_zero, Nat.xor_zero, Nat.testBit_two_pow_sub_one]
  rw [e]
  obtain ⟨m, hm⟩ : ∃ m, 64 = q + m := ⟨64 - q, by omega⟩
  rw [hm, List.range_add, List.filter_append, List.length_append]
  have e2 : (List.map (fun x => q + x) (List.range m)).filter (fun k => decide (k < q)) = [] := by
    rw [List.filter_eq_nil_iff]
    intro k hk
    rw [List.mem_map] at hk
    obtain ⟨x, _, rfl⟩ := hk
    simp
  rw [e2]
  have := List.length_filter_le (fun k => decide (k < q)) (List.range q)
  simpa using this
theorem masks_cast (rows : List (List Int)) : masksI rows = (rows.map maskOf).map fun (m : Nat) => (m : Int) := by unfold masksI; rw [List.map_map]; rfl
section
variable {α : Type} (V : α → Res) (w0 : World) (fv : Nat) (caps : Array Value) (step : α → List Int → α × Bool) (a0 : α) (C Q : Int) (rows : List (List Int)) (A : Option Addr) (cA : Nat)
set_option maxHeartbeats 1000000 in
set_option maxRecDepth 100000 in
theorem impl_searched.bad (hR : kL.C w0 A rows.length rows) (hcA : rows.length ≤ cA) (hz : sizesOk rows) (hk : coverOk C Q rows = false) (w : World) (hb0 : Below w0.heap.size w0 w) :
    Calls Tryd.prog 44 #[.agg #[.int .i64 C, .int .i64 Q, .slice A rows.length cA], .func (.func fv) #[] caps] w fun e w' => e = .returned (.tuple #[.pointer none, .int .i64 1]) ∧ Below w.heap.size w w' := by
  have HK := A0_ (show impl_IsCover.f 0 C Q rows = some false by unfold impl_IsCover.f; rw [if_pos hz, hk])
  have HR := A0_ (Kd.C_below hR hb0)
  have HB0 := A0_ (below_alloc (Below.refl w.heap.size w) (.cells #[.int .i64 C, .int .i64 Q, .slice A rows.length cA] 28))
  clear hk hR hz
  go_enter Tryd.func44, Tryd.ntmps44
  go_wp2_with (first
    | (go_at_call 49; refine (impl_IsCover.calls 0 C Q A cA rows false _ (Kd.C_below HR.out HB0.out) hcA HK.out).mono ?_; rintro e w1 ⟨rfl, hb⟩; have HB := A0_ (below_step HB0.out hb); clear hb))
  go_ret2
  exact ⟨rfl, HB.out⟩
theorem impl_from.root (hV : VisC V w0 fv caps step rows.length) (hT : TabAt 0 Lib.deBruijn64tab w0) (hco : CovOk C Q rows) (rest : List Res) (g : Nat) (Am : Option Addr) (cm : Nat) (w : World)
    (hs : Sp w0 ([Res.blk g #[.slice Am rows.length cm, .int .u64 ((2 ^ Q.toNat - 1 : Nat) : Int), .int .i64 0, .slice none 0 0, .func (.func fv) #[] caps, .bool false, .bool false] 64, Res.row kU 62 w0.heap.size (.slice Am rows.length cm) (masksI rows)] ++ ([V a0] ++ rest)) w) :
    Calls Tryd.prog 53 #[.pointer (some ⟨g, 0, none⟩), .int .u64 0] w fun e w' => e = .returned (.tuple #[]) ∧ ∃ v0 v3 : Value,
      Sp w0 ([Res.blk g #[v0, .int .u64 ((2 ^ Q.toNat - 1 : Nat) : Int), .int .i64 (endL rows Q step a0).steps, v3, .func (.func fv) #[] caps, .bool (endL rows Q step a0).ended, .bool (endL rows Q step a0).broken] 64, V (endL rows Q step a0).a] ++ rest) w' := by
  have hq : Q.toNat ≤ 60 := by have := hco.c60; have := hco.qc; omega
  have hln : (rows.map maskOf).length = rows.length := List.length_map ..
  have hcm := (Sp.reads hs (i := 1) rfl).2.1
  have hm60 : ∀ m ∈ rows.map maskOf, m < 2 ^ 60 := fun m hm => by
    rw [List.mem_map] at hm
    obtain ⟨r, hr, rfl⟩ := hm
    exact maskOf_lt r 60 (fun x hx => by have := hco.ins r hr x hx; have := hco.c60; omega)
  have hrq : 2 ^ Q.toNat - 1 < 2 ^ 60 := by have := Nat.pow_le_pow_right (n := 2) (by decide) hq; have := Nat.two_pow_pos Q.toNat; omega
  have hn4 : (rows.map maskOf).length ≤ 400 := by rw [hln]; exact hco.n400
  have hcm2 : (rows.map maskOf).length ≤ cm := by rw [hln]; exact hcm
  have he := end_eq hco step a0
  generalize endL rows Q step a0 = R at he ⊢
  generalize hreq : 2 ^ Q.toNat - 1 = req at he hs hrq ⊢
  have hleft := left_all Q.toNat hq
  rw [hreq] at hleft
  rw [masks_cast, ← hln] at hs
  generalize rows.map maskOf = ms at *
  have h3 := Sp.made hs (Below.refl _ _) (Kd.R_nil kI 2 _ w0.heap.size _)
  have h4 := Sp.arr (pre := [Res.row kI 2 w0.heap.size (.slice none 0 0) [], Res.blk g #[.slice Am ms.length cm, .int .u64 (req : Int), .int .i64 0, .slice none 0 0, .func (.func fv) #[] caps, .bool false, .bool false] 64, Res.row kU 62 w0.heap.size (.slice Am ms.length cm) (ms.map fun (m : Nat) => (m : Int)), V a0]) (pre' := [Res.blk g #[.slice Am ms.length cm, .int .u64 (req : Int), .int .i64 0, .slice none 0 0, .func (.func fv) #[] caps, .bool false, .bool false] 64, Res.row kU 62 w0.heap.size (.slice Am ms.length cm) (ms.map fun (m : Nat) => (m : Int)), Res.row kI 2 w0.heap.size (.slice none 0 0) [], V a0]) (rest := rest) [1, 2, 0, 3] h3 rfl rfl
  have hc := impl_from.calls' V w0 fv caps step ms (by rw [hln]; exact hV) hm60 hn4 req hrq hT g Am cm hcm2 Q.toNat 0 [] ⟨0, false, false, a0⟩ w rest none 0 (Nat.two_pow_pos 60) (fun j hj => by simp at hj) (by rw [List.length_nil]; omega) hleft ⟨Int.le_refl _, by dsimp only; omega⟩ rfl rfl h4
  rw [he] at hc
  refine Calls.mono hc ?_
  rintro e w3 ⟨rfl, Aq, cq, hs_⟩
  exact ⟨rfl, _, _, Sp.out (Sp.out hs_ 2) 1⟩
set_option maxHeartbeats 2000000 in
set_option maxRecDepth 100000 in
theorem impl_searched.good (hV : VisC V w0 fv caps step rows.length) (hT : TabAt 0 Lib.deBruijn64tab w0) (hR : kL.C w0 A rows.length rows) (hcA : rows.length ≤ cA) (hz : sizesOk rows) (hk : coverOk C Q rows = true) (rest : List Res) (w : World) (hs : Sp w0 ([V a0] ++ rest) w) :
    Calls Tryd.prog 44 #[.agg #[.int .i64 C, .int .i64 Q, .slice A rows.length cA], .func (.func fv) #[] caps] w fun e w' => ∃ (g : Nat) (v0 v3 : Value), e = .returned (.tuple #[.pointer (some ⟨g, 0, none⟩), .int .i64 (codeL (endL rows Q step a0).broken)]) ∧
      Sp w0 ([Res.blk g #[v0, .int .u64 ((2 ^ Q.toNat - 1 : Nat) : Int), .int .i64 (endL rows Q step a0).steps, v3, .func (.func fv) #[] caps, .bool (endL rows Q step a0).ended, .bool (endL rows Q step a0).broken] 64, V (endL rows Q step a0).a] ++ rest) w' := by
  have hco := coverOk_spec hk
  have HCO := A0_ hco
  have HK := A0_ (show impl_IsCover.f 0 C Q rows = some true by unfold impl_IsCover.f; rw [if_pos hz, hk])
  have HR := A0_ hR
  have HVC := A0_ hV
  have HT := A0_ hT
  have HS0 := A0_ (Sp.alloc hs (.cells #[.int .i64 C, .int .i64 Q, .slice A rows.length cA] 28))
  obtain ⟨wA, hwA⟩ : ∃ wA, wA = w.alloc (.cells #[.int .i64 C, .int .i64 Q, .slice A rows.length cA] 28) := ⟨_, rfl⟩
  obtain ⟨gb, hgb⟩ : ∃ gb, gb = w.heap.size := ⟨_, rfl⟩
  have hblk := blk_new w (.cells #[.int .i64 C, .int .i64 Q, .slice A rows.length cA] 28)
  have HBK := A0_ hblk
  rw [← hwA, ← hgb] at HBK
  rw [← hwA] at HS0
  have HWA := A0_ hwA.symm
  have HGB := A0_ hgb.symm
  obtain ⟨R, hRe⟩ : ∃ R, R = endL rows Q step a0 := ⟨_, rfl⟩
  have HRE := A0_ hRe.symm
  rw [← hRe]
  clear hs hR hV hT hk hco hz hwA hgb hblk hRe
  go_enter Tryd.func44, Tryd.ntmps44
  go_wp2_with (first
    | (go_at_call 49; rw [HWA.out]; refine (impl_IsCover.calls 0 C Q A cA rows true _ (Kd.C_below HR.out HS0.out.below) hcA HK.out).mono ?_; rintro e w1 ⟨rfl, hb⟩; have HS1 := A0_ (Sp.far HS0.out hb); have hbk := A0_ (blk_below HBK.out hb); have hq0 := (blk_cell hbk.out 0).trans rfl; have hq1 := (blk_cell hbk.out 1).trans rfl; have hq2 := (blk_cell hbk.out 2).trans rfl; rw [HGB.out]; clear hb HS0)
    | (go_at_call 50; refine (impl_newCoverSearch.calls' HCO.out w0 A cA HR.out hcA fv caps _ _ HS1.out).mono ?_; rintro e w2 ⟨g, Am, cm, rfl, hs_⟩; have HS2 := A0_ hs_; clear hs_ HS1 hq0 hq1 hq2)
    | (go_at_call 53; refine (impl_from.root V w0 fv caps step a0 C Q rows HVC.out HT.out HCO.out rest g Am cm _ HS2.out).mono ?_; rintro e w3 ⟨rfl, v0, v3, hs_⟩; rw [HRE.out] at hs_; have HS5 := A0_ hs_; have hy6 := (blk_cell (Sp.blk hs_ (i := 0) rfl).1 6).trans rfl; clear hs_ HS2; cases hbr : R.broken <;> rw [hbr] at hy6))
  · go_ret2
    have h5 := HS5.out
    rw [hbr] at h5
    first | (rw [hbr]; exact ⟨g, v0, v3, rfl, h5⟩) | exact ⟨g, v0, v3, rfl, h5⟩
  · go_ret2
    have h5 := HS5.out
    rw [hbr] at h5
    first | (rw [hbr]; exact ⟨g, v0, v3, rfl, h5⟩) | exact ⟨g, v0, v3, rfl, h5⟩
end
end Go.Proofs.YtoglcgnbkibpgaaDoor.A

/- The program's CountNodes and CountCovers, walked. -/
namespace Go.Proofs.YtoglcgnbkibpgaaDoor.A
open Go.RowKit Go.Proofs.YtoglcgnbkibpgaaDoorW.PrintWords Go.Proofs.YtoglcgnbkibpgaaDoorW.PrintLast Go.Proofs.YtoglcgnbkibpgaaDoorW.PrintMore Go.Proofs.YtoglcgnbkibpgaaDoorW.Cov Go.Proofs.YtoglcgnbkibpgaaDoorW.Tree
set_option linter.unusedVariables false
set_option linter.unusedSimpArgs false
def stepN (_ : Unit) (_ : List Int) : Unit × Bool := ((), true)
end Go.Proofs.YtoglcgnbkibpgaaDoor.A


/- slices.Clone of a row of numbers, walked. -/
namespace Go.Proofs.YtoglcgnbkibpgaaDoor.A
open Go.RowKit Go.Proofs.YtoglcgnbkibpgaaDoorW.PrintWords Go.Proofs.YtoglcgnbkibpgaaDoorW.PrintLast Go.Proofs.YtoglcgnbkibpgaaDoorW.PrintMore Go.Proofs.YtoglcgnbkibpgaaDoorW.Cov Go.Proofs.YtoglcgnbkibpgaaDoorW.Tree
set_option linter.unusedVariables false
set_option linter.unusedSimpArgs false
set_option maxHeartbeats 1000000 in
set_option maxRecDepth 100000 in
theorem clone_calls (xs : List Int) (A : Option Addr) (c : Nat) (w : World) (hC : kI.C w A xs.length xs) (hc : xs.length ≤ c) (hl : xs.length ≤ 1048576) :
    Calls Tryd.prog 52 #[.slice A xs.length c] w fun e w' => ∃ v, e = .returned v ∧ Kd.R kI 2 w' w.heap.size (fun _ => True) v xs ∧ Below w.heap.size w w' := by
  have qT : ∀ (w : World) (a : Option Addr) (n c : Nat), (binOp .eql 32 (.slice a n c) (.slice none 0 0)).run Tryd.prog w = .ok (.bool a.isNone) w := fun w a n c => Lib.run_eql_slice_nil w _ _ a n c 0 0 Tryd.underlying32
  have HC := A0_ hC
  have HL := A0_ hl
  have HC2 := A0_ hc
  clear hC hl hc
  cases A with
  | none =>
    have hx : xs = [] := by
      cases xs with
      | nil => rfl
      | cons x xs =>
        obtain ⟨ad, e, _⟩ := Kd.at_int HC.out 0 (by omega) (by simp only [List.length_cons]; omega)
        cases e
    subst hx
    clear HC HL
    go_enter Tryd.func52, Tryd.ntmps52
    go_wp2
    go_ret
    exact ⟨_, rfl, Kd.R_nil kI 2 _ _ _, Below.refl _ _⟩
  | some ad =>
    go_enter Tryd.func52, Tryd.ntmps52
    go_wp2_with (first
      | ((with_reducible refine gate_dst (N := 5) rfl ?_); refine Kd.R_lit kI _ 2 ?hg (N := 5) ?hd (xs := ([] : List Int)) (inner := []) (ok := fun _ => True) (okp := fun _ => True) ?hr ?hp (fun _ hk => hk) trivial (Below.refl _ _) (Nat.le_refl _) (by simp) ?_; (case hd => rfl); (case hg => rfl); (case hr => first | (go_simp; done) | (go_simp; rfl)); (case hp => exact (Reps.none _ _)); intro v1 w1 ho hb hg_ hnew_; clear hg_ hnew_; have HS := A0_ (Sp.made' (Sp.start w) hb ho); have HCW := A0_ (Kd.C_below HC.out hb); clear hb ho)
      | ((with_reducible refine gate_builtin (b := .append) (xs := #[.tmp 5, .tmp 6]) rfl ?_); at_builtin; obtain ⟨fp_, ho_, hf_, hc_⟩ := Sp.row HS.out (i := 0) rfl;
         refine Kd.R_append_rows kI (w0 := w) w.heap.size rfl (.tmp 5) (.tmp 6) 32 2 (.int .i64 0) 8 rfl Tryd.underlying32 info2 rfl (by decide) (by omega) _ [] xs _ _ _ _ (fun _ => False) rfl rfl ho_ HCW.out (fun _ _ h => h) (fun _ h => h.elim) (fun _ h => .inr h) HS.out.below HS.out.below.size ?aL ?_;
         (case aL => have := HL.out; simp only [List.length_nil]; omega);
         intro v2 w2 ho hb hg hat; rw [List.nil_append] at ho; have HO := A0_ ho; have HB := A0_ hb; clear ho hb hg hat hc_ hf_ ho_))
    go_ret
    exact ⟨_, rfl, Kd.R_mono HO.out (fun _ _ => trivial), HB.out⟩
end Go.Proofs.YtoglcgnbkibpgaaDoor.A


/- The program's IsForced, walked. -/
namespace Go.Proofs.YtoglcgnbkibpgaaDoor.A
open Go.RowKit Go.Proofs.YtoglcgnbkibpgaaDoorW.PrintWords Go.Proofs.YtoglcgnbkibpgaaDoorW.PrintLast Go.Proofs.YtoglcgnbkibpgaaDoorW.PrintMore Go.Proofs.YtoglcgnbkibpgaaDoorW.Cov Go.Proofs.YtoglcgnbkibpgaaDoorW.Tree
set_option linter.unusedVariables false
set_option linter.unusedSimpArgs false
theorem Sp.boxed {w0 w w1 : World} {rs : List Res} {g : Nat} {cs : Array Value} {t : Nat} (h : Sp w0 rs w) (hg : g = w.heap.size) (hc : w1.heap[g]? = some (.cells cs t (0, 0))) (hb : Below w.heap.size w w1) : Sp w0 (Res.blk g cs t :: rs) w1 :=
  h.push hb ⟨⟨by omega, blk_lt hc⟩, hc⟩
end Go.Proofs.YtoglcgnbkibpgaaDoor.A

/- The reference's IsForced, walked. -/
namespace Go.Proofs.YtoglcgnbkibpgaaDoor.A
open Go.RowKit Go.Proofs.YtoglcgnbkibpgaaDoorW.PrintWords Go.Proofs.YtoglcgnbkibpgaaDoorW.PrintLast Go.Proofs.YtoglcgnbkibpgaaDoorW.PrintMore Go.Proofs.YtoglcgnbkibpgaaDoorW.Cov Go.Proofs.YtoglcgnbkibpgaaDoorW.Tree
set_option linter.unusedVariables false
set_option linter.unusedSimpArgs false
/-- What a call has made comes to what was there. -/
theorem Sp.app {w0 w1 w2 : World} {rs rs2 : List Res} (h : Sp w0 rs w1) (h2 : Sp w1 rs2 w2) : Sp w0 (rs2 ++ rs) w2 := by
  obtain ⟨F, f1, f2, f3⟩ := h.foot
  obtain ⟨G, g1, g2, g3⟩ := h2.foot
  have hb : Below w0.heap.size w0 w2 := (Turns.of_below (fp := fun _ => False) h2.below).below h.below (fun _ hk => hk.elim)
  refine ⟨hb, fun j => if j < rs2.length then G j else F (j - rs2.length), fun j s hj => ?_, fun i j k hij => ?_, fun j k => ?_⟩
  · by_cases c : j < rs2.length
    · rw [List.getElem?_append_left c] at hj
      simp only [if_pos c]
      exact g1 j s hj
    · rw [List.getElem?_append_right (by omega)] at hj
      simp only [if_neg c]
      exact s.mono (fun k hk => hk.1) (s.move (fun k hk hlt => h2.below.block k hlt) (f1 _ s hj))
  · by_cases c : i < rs2.length
    · by_cases d : j < rs2.length
      · simp only [if_pos c, if_pos d]
        exact g2 i j k hij
      · simp only [if_pos c, if_neg d]
        intro hi hj
        have := (g3 i k hi).1
        have := (f3 _ k hj).2
        omega
    · by_cases d : j < rs2.length
      · simp only [if_neg c, if_pos d]
        intro hi hj
        have := (g3 j k hj).1
        have := (f3 _ k hi).2
        omega
      · simp only [if_neg c, if_neg d]
        exact f2 _ _ k (by omega)
  · by_cases c : j < rs2.length
    · simp only [if_pos c]
      intro hk
      have h3 := g3 j k hk
      have := h.below.size
      exact ⟨by omega, h3.2⟩
    · simp only [if_neg c]
      intro hk
      have h3 := f3 _ k hk
      have := h2.below.size
      exact ⟨h3.1, by omega⟩
end Go.Proofs.YtoglcgnbkibpgaaDoor.A

/- slices.Sort of a row of numbers: the shelf's contract at this program, as a row of one's own. -/
namespace Go.Proofs.YtoglcgnbkibpgaaDoor.A
open Go.Shelf
set_option linter.unusedVariables false
set_option linter.unusedSimpArgs false
def laysSort_ren : Go.Shelf.Ren := ⟨fun | 5 => 63 | 8 => 82 | 7 => 81 | 19 => 99 | 20 => 100 | 10 => 90 | 11 => 91 | 12 => 92 | 13 => 93 | 14 => 94 | 15 => 95 | 16 => 96 | 17 => 97 | 18 => 98 | 30 => 102 | 31 => 103 | 32 => 104 | 33 => 105 | 34 => 106 | 35 => 107 | 40 => 108 | n => n, fun | 23 => 32 | 25 => 2 | 3 => 3 | 32 => 85 | 22 => 32 | 0 => 0 | 44 => 107 | 46 => 62 | 4 => 4 | 36 => 99 | 35 => 98 | 41 => 104 | 5 => 5 | 9 => 9 | 53 => 110 | 57 => 114 | 63 => 116 | 64 => 117 | n => n, fun | n => n⟩
theorem laysSort : Go.Proofs.SlLaysM.n5 Tryd.prog laysSort_ren := {
  mixed := by kernel_rfl
  f5 := ⟨Tryd.f63.name, by decide, Tryd.func63.trans (congrArg some (by kernel_rfl))⟩
  f7 := ⟨Tryd.f81.name, by decide, Tryd.func81.trans (congrArg some (by kernel_rfl))⟩
  f8 := Tryd.func82.trans (congrArg some (by kernel_rfl))
  f10 := ⟨Tryd.f90.name, by decide, Tryd.func90.trans (congrArg some (by kernel_rfl))⟩
  f11 := ⟨Tryd.f91.name, by decide, Tryd.func91.trans (congrArg some (by kernel_rfl))⟩
  f12 := ⟨Tryd.f92.name, by decide, Tryd.func92.trans (congrArg some (by kernel_rfl))⟩
  f13 := ⟨Tryd.f93.name, by decide, Tryd.func93.trans (congrArg some (by kernel_rfl))⟩
  f14 := ⟨Tryd.f94.name, by decide, Tryd.func94.trans (congrArg some (by kernel_rfl))⟩
  f15 := ⟨Tryd.f95.name, by decide, Tryd.func95.trans (congrArg some (by kernel_rfl))⟩
  f16 := ⟨Tryd.f96.name, by decide, Tryd.func96.trans (congrArg some (by kernel_rfl))⟩
  f17 := ⟨Tryd.f97.name, by decide, Tryd.func97.trans (congrArg some (by kernel_rfl))⟩
  f18 := ⟨Tryd.f98.name, by decide, Tryd.func98.trans (congrArg some (by kernel_rfl))⟩
  f19 := Tryd.func99.trans (congrArg some (by kernel_rfl))
  f20 := Tryd.func100.trans (congrArg some (by kernel_rfl))
  f30 := ⟨Tryd.f102.name, by decide, Tryd.func102.trans (congrArg some (by kernel_rfl))⟩
  f31 := Tryd.func103.trans (congrArg some (by kernel_rfl))
  f32 := Tryd.func104.trans (congrArg some (by kernel_rfl))
  f33 := ⟨Tryd.f105.name, by decide, Tryd.func105.trans (congrArg some (by kernel_rfl))⟩
  f34 := ⟨Tryd.f106.name, by decide, Tryd.func106.trans (congrArg some (by kernel_rfl))⟩
  f35 := ⟨Tryd.f107.name, by decide, Tryd.func107.trans (congrArg some (by kernel_rfl))⟩
  f40 := ⟨Tryd.f108.name, by decide, Tryd.func108.trans (congrArg some (by kernel_rfl))⟩
  t0 := Tryd.underlying0
  a0 := Tryd.isAgg0
  z0 := Tryd.sizeOf0
  v0 := Tryd.zeroValue0
  t3 := Tryd.underlying3
  a3 := Tryd.isAgg3
  z3 := Tryd.sizeOf3
  v3 := Tryd.zeroValue3
  t4 := Tryd.underlying4
  a4 := Tryd.isAgg4
  z4 := Tryd.sizeOf4
  v4 := Tryd.zeroValue4
  t5 := Tryd.underlying5
  a5 := Tryd.isAgg5
  z5 := Tryd.sizeOf5
  v5 := Tryd.zeroValue5
  t9 := Tryd.underlying9
  a9 := Tryd.isAgg9
  z9 := Tryd.sizeOf9
  v9 := Tryd.zeroValue9
  t22 := Tryd.underlying32
  a22 := Tryd.isAgg32
  z22 := Tryd.sizeOf32
  v22 := Tryd.zeroValue32
  t23 := Tryd.underlying32
  a23 := Tryd.isAgg32
  z23 := Tryd.sizeOf32
  v23 := Tryd.zeroValue32
  t25 := Tryd.underlying2
  a25 := Tryd.isAgg2
  z25 := Tryd.sizeOf2
  v25 := Tryd.zeroValue2
  t32 := Tryd.underlying85
  a32 := Tryd.isAgg85
  z32 := Tryd.sizeOf85
  v32 := Tryd.zeroValue85
  t35 := Tryd.underlying98
  a35 := Tryd.isAgg98
  z35 := Tryd.sizeOf98
  v35 := Tryd.zeroValue98
  t36 := Tryd.underlying99
  a36 := Tryd.isAgg99
  z36 := Tryd.sizeOf99
  v36 := Tryd.zeroValue99
  t41 := Tryd.underlying104
  a41 := Tryd.isAgg104
  z41 := Tryd.sizeOf104
  v41 := Tryd.zeroValue104
  t44 := Tryd.underlying107
  a44 := Tryd.isAgg107
  z44 := Tryd.sizeOf107
  v44 := Tryd.zeroValue107
  t46 := Tryd.underlying62
  a46 := Tryd.isAgg62
  z46 := Tryd.sizeOf62
  v46 := Tryd.zeroValue62
  t53 := Tryd.underlying110
  a53 := Tryd.isAgg110
  z53 := Tryd.sizeOf110
  v53 := Tryd.zeroValue110
  t57 := Tryd.underlying114
  a57 := Tryd.isAgg114
  z57 := Tryd.sizeOf114
  v57 := Tryd.zeroValue114
  t63 := Tryd.underlying116
  a63 := Tryd.isAgg116
  z63 := Tryd.sizeOf116
  v63 := Tryd.zeroValue116
  t64 := Tryd.underlying117
  a64 := Tryd.isAgg117
  z64 := Tryd.sizeOf117
  v64 := Tryd.zeroValue117 }
open Go.RowKit Go.Proofs.YtoglcgnbkibpgaaDoorW.PrintWords Go.Proofs.YtoglcgnbkibpgaaDoorW.PrintLast Go.Proofs.YtoglcgnbkibpgaaDoorW.PrintMore Go.Proofs.YtoglcgnbkibpgaaDoorW.Cov Go.Proofs.YtoglcgnbkibpgaaDoorW.Tree
/-- A row in order. -/
def sortL (xs : List Int) : List Int := xs.mergeSort fun x y => decide (x ≤ y)
theorem sortL_len (xs : List Int) : (sortL xs).length = xs.length := by unfold sortL; simp
theorem sort_calls (xs : List Int) (A : Option Addr) (cap base : Nat) (ok : Nat → Prop) (w : World) (h : kI.R 2 w base ok (.slice A xs.length cap) xs) (hl : xs.length ≤ 1048576) :
    Calls Tryd.prog 63 #[.slice A xs.length cap] w fun e w' => e = .returned (.tuple #[]) ∧ kI.R 2 w' base ok (.slice A xs.length cap) (sortL xs) ∧ w.grownBy w' (Value.slice A xs.length cap).ownBlock := by
  by_cases c : 0 < xs.length
  · obtain ⟨g, cap', e, hb, hg, _⟩ := Kd.R_form h c
    injection e with e1 _ e3
    subst e1 e3
    have ho := Kd.own_of_R h
    obtain ⟨_, _, _, _, _, _, _, _, hh⟩ := Lib.holds_of_ownsRow ho (by simp)
    injection ‹Value.slice (some ⟨g, 0, none⟩) xs.length cap = _› with e4 _ e5
    injection e4 with e4
    injection e4 with e4
    subst e4
    refine (AnyM.slices_Sort_int laysSort g 0 cap xs w hh hg (by omega)).mono ?_
    rintro e w' ⟨rfl, n, os, rfl⟩
    rw [show (xs.mergeSort fun x y => decide (x ≤ y)) = sortL xs from rfl]
    have hp := Lib.ownsRow_putRow (q := n) (ys := sortL xs) ho (sortL_len xs) (Nat.le_refl _)
    rw [List.take_of_length_le (by rw [sortL_len]; exact Nat.le_refl _)] at hp
    have hsz : ∀ k, k < w.heap.size → g ≠ k → (Sort.putRow (Value.int .i64) (Sort.ahead w n) g 0 (sortL xs).toArray).heap[k]? = w.heap[k]? := fun k hk hne => by
      simp [Sort.putRow, Sort.mapBlock, Sort.ahead, Array.getElem?_modify, hne]
    have hs2 : (Sort.putRow (Value.int .i64) (Sort.ahead w n) g 0 (sortL xs).toArray).heap.size = w.heap.size := by simp [Sort.putRow, Sort.mapBlock, Sort.ahead]
    have hr : kI.R 2 (Sort.putRow (Value.int .i64) (Sort.ahead w n) g 0 (sortL xs).toArray) base ok (.slice (some ⟨g, 0, none⟩) (sortL xs).length cap) (sortL xs) := Kd.R_of_own (by rw [sortL_len]; exact hp) h.1
    rw [sortL_len] at hr
    refine ⟨rfl, Kd.R_step hr (fun k hk hlt => Sort.heap_grow_old _ _ hlt), rfl, rfl, rfl, by rw [Sort.size_grow, hs2]; omega, fun k hk hne => ?_⟩
    rw [Sort.heap_grow_old _ _ (by rw [hs2]; exact hk)]
    exact hsz k hk (fun e => hne (by rw [e]; rfl))
  · have e : xs = [] := List.length_eq_zero_iff.1 (by omega)
    subst e
    refine (AnyM.slices_Sort_int_none laysSort A cap w).mono ?_
    rintro e w' ⟨rfl, rfl⟩
    have e0 : sortL ([] : List Int) = [] := by simp [sortL]
    rw [e0]
    exact ⟨rfl, h, World.grownBy.refl _ _⟩
end Go.Proofs.YtoglcgnbkibpgaaDoor.A

/- spec.l12Sorted (insertion sort), walked (tools/covsrt.py prints its drawing region). -/
namespace Go.Proofs.YtoglcgnbkibpgaaDoor.A
open Go.RowKit Go.Proofs.YtoglcgnbkibpgaaDoorW.PrintWords Go.Proofs.YtoglcgnbkibpgaaDoorW.PrintLast Go.Proofs.YtoglcgnbkibpgaaDoorW.PrintMore Go.Proofs.YtoglcgnbkibpgaaDoorW.Cov Go.Proofs.YtoglcgnbkibpgaaDoorW.Tree
set_option linter.unusedVariables false
set_option linter.unusedSimpArgs false
/-- Where a number goes: behind all that are less. -/
def posL (out : List Int) (x : Int) : Nat := (out.takeWhile fun y => decide (y < x)).length
def insL (out : List Int) (x : Int) : List Int := out.take (posL out x) ++ [x] ++ out.drop (posL out x)
def insAll (l : List Int) : List Int := l.foldl insL []
theorem posL_le (out : List Int) (x : Int) : posL out x ≤ out.length := List.Sublist.length_le (List.takeWhile_sublist _)
theorem posL_eq (out : List Int) (x : Int) (p : Nat) (hp : p ≤ out.length) (h1 : ∀ j (h : j < p), out[j]'(by omega) < x) (h2 : ∀ h : p < out.length, ¬ out[p] < x) : posL out x = p := by
  induction out generalizing p with
  | nil => simp at hp; subst hp; rfl
  | cons y out ih =>
    unfold posL
    rw [List.takeWhile_cons]
    cases p with
    | zero =>
      have := h2 (by simp)
      simp only [List.getElem_cons_zero] at this
      rw [if_neg (by simpa using this)]
      rfl
    | succ p =>
      have h0 := h1 0 (by omega)
      simp only [List.getElem_cons_zero] at h0
      rw [if_pos (by simpa using h0), List.length_cons]
      have := ih p (by simpa using hp) (fun j hj => by have := h1 (j + 1) (by omega); simpa using this) (fun hq => by have := h2 (by simpa using hq); simpa using this)
      unfold posL at this
      rw [this]
theorem insL_len (out : List Int) (x : Int) : (insL out x).length = out.length + 1 := by
  have := posL_le out x
  unfold insL
  simp only [List.length_append, List.length_take, List.length_drop, List.length_singleton]
  omega
theorem insAll_snoc (l : List Int) (i : Nat) (h : i < l.length) : insAll (l.take (i + 1)) = insL (insAll (l.take i)) l[i] := by
  unfold insAll
  rw [List.take_succ_eq_append_getElem h, List.foldl_append]
  rfl
theorem insAll_len (l : List Int) : (insAll l).length = l.length := by
  have key : ∀ (l acc : List Int), (l.foldl insL acc).length = acc.length + l.length := by
    intro l
    induction l with
    | nil => intro acc; simp
    | cons x l ih => intro acc; rw [List.foldl_cons, ih, insL_len, List.length_cons]; omega
  unfold insAll
  rw [key]
  simp
theorem insL_perm (out : List Int) (x : Int) : (insL out x).Perm (x :: out) := by
  unfold insL
  have h := List.perm_middle (a := x) (l₁ := out.take (posL out x)) (l₂ := out.drop (posL out x))
  rw [List.take_append_drop] at h
  rw [List.append_assoc]
  exact h
theorem insAll_perm (l : List Int) : (insAll l).Perm l := by
  have key : ∀ (l acc : List Int), (l.foldl insL acc).Perm (acc ++ l) := by
    intro l
    induction l with
    | nil => intro acc; simp
    | cons x l ih =>
      intro acc
      rw [List.foldl_cons]
      refine (ih _).trans ?_
      refine ((insL_perm acc x).append_right l).trans ?_
      exact List.perm_middle.symm
  have := key l []
  simpa [insAll] using this
theorem insL_sorted (out : List Int) (x : Int) (h : out.Pairwise (· ≤ ·)) : (insL out x).Pairwise (· ≤ ·) := by
  induction out with
  | nil => simp [insL, posL]
  | cons y out ih =>
    obtain ⟨h1, h2⟩ := List.pairwise_cons.1 h
    by_cases c : y < x
    · have e : insL (y :: out) x = y :: insL out x := by
        unfold insL posL
        rw [List.takeWhile_cons, if_pos (by simpa using c)]
        rfl
      rw [e, List.pairwise_cons]
      refine ⟨fun z hz => ?_, ih h2⟩
      have := (insL_perm out x).mem_iff.1 hz
      rw [List.mem_cons] at this
      rcases this with rfl | hz
      · omega
      · exact h1 z hz
    · have e : insL (y :: out) x = x :: y :: out := by
        unfold insL posL
        rw [List.takeWhile_cons, if_neg (by simpa using c)]
        rfl
      rw [e, List.pairwise_cons]
      refine ⟨fun z hz => ?_, h⟩
      rw [List.mem_cons] at hz
      rcases hz with rfl | hz
      · omega
      · have := h1 z hz; omega
theorem insAll_sorted (l : List Int) : (insAll l).Pairwise (· ≤ ·) := by
  have key : ∀ (l acc : List Int), acc.Pairwise (· ≤ ·) → (l.foldl insL acc).Pairwise (· ≤ ·) := by
    intro l
    induction l with
    | nil => intro acc h; exact h
    | cons x l ih => intro acc h; exact ih _ (insL_sorted acc x h)
  exact key l [] List.Pairwise.nil
theorem insAll_eq (l : List Int) : insAll l = sortL l := by
  have h1 : (sortL l).Pairwise (· ≤ ·) := by
    have := List.pairwise_mergeSort (le := fun x y : Int => decide (x ≤ y)) (fun a b c h1 h2 => by simp at *; omega) (fun a b => by simp; omega) l
    exact this.imp (fun h => by simpa using h)
  exact ((insAll_perm l).trans (List.mergeSort_perm l _).symm).eq_of_pairwise (fun a b _ _ h1 h2 => Int.le_antisymm h1 h2) (insAll_sorted l) h1
def spec_l12Sorted.T8 : Bool × List (List Nat × List Nat) := (true, [([], []), ([], []), ([], []), ([1, 2], [1, 2]), ([0, 3], [0, 3]), ([], []), ([], []), ([5, 6], [5, 6]), ([7], [7]), ([8], [8]), ([4, 9, 4], [4, 9]), ([], []), ([], []), ([11, 12], [11, 12]), ([10, 13, 10], [10, 13]), ([14, 14, 0, 1, 2, 3, 4, 5, 6, 7, 8, 9, 10, 11, 12, 13, 14], [1, 11, 14])])
def spec_l12Sorted.B8 : List Nat := [0, 0, 0, 6, 15, 0, 0, 96, 224, 480, 1023, 0, 0, 6144, 16383, 32767]
theorem spec_l12Sorted.tab8 : rtab .any (opsOf Tryd.f61 8) = spec_l12Sorted.T8 := by kernel_rfl
theorem spec_l12Sorted.bits8 : waitsOk spec_l12Sorted.T8.2 spec_l12Sorted.B8 = true := by kernel_rfl
set_option maxHeartbeats 4000000 in
set_option maxRecDepth 100000 in
theorem spec_l12Sorted.calls' (l : List Int) (A : Option Addr) (c : Nat) (w : World) (hC : kI.C w A l.length l) (hc : l.length ≤ c) (hl : l.length ≤ 1048576) :
    Calls Tryd.prog 61 #[.slice A l.length c] w fun e w' => ∃ v, e = .returned v ∧ kI.R 2 w' w.heap.size (fun _ => True) v (sortL l) ∧ Below w.heap.size w w' := by
  have HR := A0_ hC
  have HL := A0_ hl
  have HS := A0_ (Sp.start w)
  clear hC hl
  go_enter Tryd.func61, Tryd.ntmps61
  go_wp2_with (first
    | ((with_reducible refine gate_dst (N := 6) rfl ?_); refine Kd.R_lit kI _ 2 ?hg (N := 6) ?hd (xs := ([] : List Int)) (inner := []) (ok := fun _ => True) (okp := fun _ => True) ?hr ?hp (fun _ hk => hk) trivial (Below.refl _ _) (Nat.le_refl _) (by simp) ?_; (case hd => rfl); (case hg => rfl); (case hr => first | (go_simp; done) | (go_simp; rfl)); (case hp => exact (Reps.none _ _)); intro vl_ wl_ ho_ hb_ hg_ hn_; clear hg_ hn_; have HS_ := A0_ (Sp.made' HS.out hb_ ho_); clear HS; have HS := HS_; clear HS_; clear ho_ hb_; obtain ⟨Ao, co, ev_⟩ := Sp.slice HS.out (i := 0) rfl; subst ev_))
  go_loopg [3, 4] (l.length + 1) (fun kq v3 v4 w' => ∃ (i : Nat) (Ao : Option Addr) (co : Nat) (out : List Int), v4 = .int .i64 (i : Int) ∧ v3 = .slice Ao out.length co ∧ Aside0 (i ≤ l.length ∧ kq + i = l.length + 1 ∧ out = insAll (l.take i)) ∧ Aside0 (Sp w ([Res.row kI 2 w.heap.size (.slice Ao out.length co) out]) w'))
  case atStart => exact ⟨0, Ao, co, [], rfl, rfl, ⟨by omega, by omega, rfl⟩, HS⟩
  case round =>
    clear HS
    obtain ⟨i, Ao, co, out, rfl, rfl, HX, HS⟩ := hrel
    obtain ⟨k1, rfl⟩ : ∃ k1, gk = k1 + 1 := ⟨gk - 1, by have := HX.out; omega⟩
    by_cases ci : i < l.length
    · have ci0 : decide (i < l.length) = true := decide_eq_true ci
      have q0 : (0 ≤ (i : Int)) = True := eq_true (by omega)
      have q1 : ((i : Int) < (l.length : Int)) = True := eq_true (by omega)
      obtain ⟨adl, el, hx⟩ := Kd.at_int HR.out (i : Int) (by omega) (by omega)
      subst el
      rw [rd_nat l i ci, Int.toNat_natCast] at hx
      have HXC := A0_ hx
      have HOL := A0_ (show out.length ≤ 1048576 by rw [HX.out.2.2, insAll_len, List.length_take]; have := HL.out; omega)
      have HIN0 := A0_ (insAll_snoc l i ci)
      have HW := A0_ (wrap_succ i (by have := HL.out; omega))
      obtain ⟨x, hx_⟩ : ∃ x, x = l[i] := ⟨_, rfl⟩
      rw [← hx_] at HXC HIN0
      clear hx hx_ ci
      rw [← HX.out.2.2] at HIN0
      go_wp2
      go_loopg [5] (out.length + 1) (fun kq v5 w' => ∃ (p : Nat), v5 = .int .i64 (p : Int) ∧ Aside0 (p ≤ out.length ∧ kq + p = out.length + 1 ∧ ∀ j (h : j < p) (h2 : j < out.length), out[j] < x) ∧ Aside0 (Sp w ([Res.row kI 2 w.heap.size (.slice Ao out.length co) out]) w'))
      case atStart => exact ⟨0, rfl, ⟨by omega, by omega, fun j h => by omega⟩, HS⟩
      case round =>
        clear HS
        obtain ⟨p, rfl, HY, HS⟩ := hrel
        obtain ⟨k2, hk2⟩ : ∃ k2, gk = k2 + 1 := ⟨gk - 1, by have := HY.out; omega⟩
        by_cases cp : p < out.length
        · have cp0 : decide (p < out.length) = true := decide_eq_true cp
          have r0 : (0 ≤ (p : Int)) = True := eq_true (by omega)
          have r1 : ((p : Int) < (out.length : Int)) = True := eq_true (by omega)
          obtain ⟨ado, eo, hy⟩ := Kd.at_int (Sp.reads HS.out (i := 0) rfl).2.2 (p : Int) (by omega) (by omega)
          cases eo
          rw [rd_nat out p cp, Int.toNat_natCast] at hy
          have hx : wr.cell? (adl.add i) = some (.int .i64 x) := pw_cell_below HS.out.below HXC.out
          have HNX := A0_ (show out[p] < x → ∀ j (h : j < p + 1) (h2 : j < out.length), out[j] < x from fun h j hj h2 => by
            by_cases e : j = p
            · subst e; exact h
            · exact HY.out.2.2 j (by omega) h2)
          have HST := A0_ (show ¬ out[p] < x → posL out x = p from fun h => posL_eq out x p (by omega) (fun j hj => HY.out.2.2 j hj (by omega)) (fun _ => h))
          generalize out[p] = y at hy HNX HST
          clear cp
          by_cases d : y < x
          · have d0 : decide (y < x) = true := decide_eq_true d
            have HND := A0_ (HNX.out d)
            have HWP := A0_ (wrap_succ p (by have := HOL.out; have := HY.out; omega))
            subst hk2
            clear d HNX HST
            go_wp2
            repeat (go_quiet (fail); try go_wp2)
            go_roundg k2
            case measure => omega
            case rel =>
              rw [HWP.out]
              exact ⟨p + 1, rfl, ⟨by have := of_decide_eq_true cp0; omega, by have := HY.out; omega, HND.out⟩, ⟨Sp.drewN HS.out _⟩⟩
          · have d0 : decide (y < x) = false := decide_eq_false d
            have HPE := A0_ (HST.out d)
            clear d HNX HST
            go_wp2
            repeat (go_quiet (fail); try go_wp2)
            obtain ⟨Ao, hAo⟩ : ∃ Ao, Ao = some ado := ⟨_, rfl⟩
            rw [← hAo] at HS ⊢
            clear hAo
            have HS_ := A0_ (Sp.drewN HS.out nq)
            clear HS hy hx hk2
            have HS := HS_
            clear HS_
            generalize wr.drewN nq = wr at HS ⊢
            have HP := A0_ HY.out.1
            have HIN := A0_ (show ((([] : List Int) ++ out.take p) ++ [x]) ++ out.drop p = insAll (l.take (i + 1)) by rw [HIN0.out, List.nil_append]; unfold insL; rw [HPE.out])
            obtain ⟨i0, hi0, _, hsz, _⟩ := info_parts info2
            have hcap := (Sp.reads HS.out (i := 0) rfl).2.1
            obtain ⟨Ad, hAd⟩ : ∃ Ad, Ad = (if co = p then Ao else Ao.map (·.add (p * 1))) := ⟨_, rfl⟩
            have HCD := A0_ (fun (w1 : World) (h : kI.C w1 Ao out.length out) => (show kI.C w1 Ad (out.length - p) (out.drop p) from by have h1 := Kd.C_drop h HP.out hcap; rw [List.length_drop] at h1; rw [hAd]; exact h1))
            have HCT := A0_ (fun (w1 : World) (h : kI.C w1 Ao out.length out) => (show kI.C w1 Ao p (out.take p) from by have h1 := Kd.C_take h HP.out; rw [List.length_take, Nat.min_eq_left HP.out] at h1; exact h1))
            have hpc : (p ≤ co) = True := eq_true (Nat.le_trans HP.out hcap)
            have hpl : (p ≤ out.length) = True := eq_true HP.out
            have hAd1 : (if co = p then Ao else Option.map (fun x => x.add p) Ao) = Ad := by rw [hAd, Nat.mul_one]
            clear hAd hcap hi0 hsz
            have HS_ := A0_ (Sp.drew HS.out)
            clear HS
            have HS := HS_
            clear HS_
            refine start_ (n := 16) (S := fun w' => w'.cell? (adl.add i) = some (.int .i64 x)) (ds := []) #[false, false, false, false, false, false, false, false, false, false, false, false, false, false, false, false] (by kernel_rfl) rfl rfl (pw_cell_below HS.out.below HXC.out) (fun hHeld => ?_)
            refine with_tabW spec_l12Sorted.tab8 spec_l12Sorted.bits8 (fun HT_ HW_ => ?_)
            generalize wr.drew = wD at HS hHeld ⊢
            refine pure_ (i := 1) (N := some 31) (v := ?_) (a' := ?_) #[false, true, false, false, false, false, false, false, false, false, false, false, false, false, false, false] rfl rfl (any_of HT_.out (by kernel_rfl)) (fun _ _ _ h => h) (Or.inl ⟨by rfl, ?_⟩) ?_ ?_
            rotate_left
            · intro w'
              go_simp
              with_reducible rfl
            rotate_left
            · simp only [Act.put, List.setIfInBounds_toArray, List.set_cons_zero, List.set_cons_succ, i64_w, i32_w]
              rfl
            refine pure_ (i := 2) (N := some 32) (v := ?_) (a' := ?_) #[false, true, true, false, false, false, false, false, false, false, false, false, false, false, false, false] rfl rfl (any_of HT_.out (by kernel_rfl)) (fun _ _ _ h => h) (Or.inl ⟨by rfl, ?_⟩) ?_ ?_
            rotate_left
            · intro w'
              go_simp
              with_reducible rfl
            rotate_left
            · simp only [Act.put, List.setIfInBounds_toArray, List.set_cons_zero, List.set_cons_succ, i64_w, i32_w]
              rfl
            refine pure_ (i := 3) (N := some 33) (v := ?_) (a' := ?_) #[false, true, true, true, false, false, false, false, false, false, false, false, false, false, false, false] rfl rfl (any_of HT_.out (by kernel_rfl)) (fun _ _ _ h => h) (Or.inl ⟨by rfl, ?_⟩) ?_ ?_
            rotate_left
            · intro w'
              go_simp
              with_reducible rfl
            rotate_left
            · simp only [Act.put, List.setIfInBounds_toArray, List.set_cons_zero, List.set_cons_succ, i64_w, i32_w]
              rfl
            refine pure_ (i := 5) (N := some 35) (v := ?_) (a' := ?_) #[false, true, true, true, false, true, false, false, false, false, false, false, false, false, false, false] rfl rfl (any_of HT_.out (by kernel_rfl)) (fun _ _ _ h => h) (Or.inl ⟨by rfl, ?_⟩) ?_ ?_
            rotate_left
            · intro w'
              go_simp
              with_reducible rfl
            rotate_left
            · simp only [Act.put, List.setIfInBounds_toArray, List.set_cons_zero, List.set_cons_succ, i64_w, i32_w]
              rfl
            refine pure_ (i := 6) (N := some 36) (v := ?_) (a' := ?_) #[false, true, true, true, false, true, true, false, false, false, false, false, false, false, false, false] rfl rfl (any_of HT_.out (by kernel_rfl)) (fun _ _ _ h => h) (Or.inl ⟨by rfl, ?_⟩) ?_ ?_
            rotate_left
            · intro w'
              go_simp
              with_reducible rfl
            rotate_left
            · simp only [Act.put, List.setIfInBounds_toArray, List.set_cons_zero, List.set_cons_succ, i64_w, i32_w]
              rfl
            refine pure_ (i := 7) (N := some 37) (v := ?_) (a' := ?_) #[false, true, true, true, false, true, true, true, false, false, false, false, false, false, false, false] rfl rfl (any_of HT_.out (by kernel_rfl)) (fun _ _ _ h => h) (Or.inl ⟨by rfl, ?_⟩) ?_ ?_
            rotate_left
            · intro w'
              go_simp
              with_reducible rfl
            rotate_left
            · simp only [Act.put, List.setIfInBounds_toArray, List.set_cons_zero, List.set_cons_succ, i64_w, i32_w]
              rfl
            refine take_ (i := 8) (N := some 38) (v := ?_) (a' := ?_) #[false, true, true, true, false, true, true, true, true, false, false, false, false, false, false, false] rfl rfl (take_ofW HT_.out HW_.out (by kernel_rfl)) (fun _ _ _ h => h) (Or.inl ⟨by rfl, ?_⟩) hHeld ?_ ?_
            rotate_left
            · rintro w' s0
              go_simp
              with_reducible rfl
            rotate_left
            · simp only [Act.put, List.setIfInBounds_toArray, List.set_cons_zero, List.set_cons_succ, i64_w, i32_w]
              rfl
            refine pure_ (i := 11) (N := some 41) (v := ?_) (a' := ?_) #[false, true, true, true, false, true, true, true, true, false, false, true, false, false, false, false] rfl rfl (any_of HT_.out (by kernel_rfl)) (fun _ _ _ h => h) (Or.inl ⟨by rfl, ?_⟩) ?_ ?_
            rotate_left
            · intro w'
              go_simp
              with_reducible rfl
            rotate_left
            · simp only [Act.put, List.setIfInBounds_toArray, List.set_cons_zero, List.set_cons_succ, i64_w, i32_w]
              rfl
            refine pure_ (i := 12) (N := some 42) (v := ?_) (a' := ?_) #[false, true, true, true, false, true, true, true, true, false, false, true, true, false, false, false] rfl rfl (any_of HT_.out (by kernel_rfl)) (fun _ _ _ h => h) (Or.inl ⟨by rfl, ?_⟩) ?_ ?_
            rotate_left
            · intro w'
              go_simp
              with_reducible rfl
            rotate_left
            · simp only [Act.put, List.setIfInBounds_toArray, List.set_cons_zero, List.set_cons_succ, i64_w, i32_w]
              rfl
            refine pure_ (i := 13) (N := some 43) (v := ?_) (a' := ?_) #[false, true, true, true, false, true, true, true, true, false, false, true, true, true, false, false] rfl rfl (any_of HT_.out (by kernel_rfl)) (fun _ _ _ h => h) (Or.inl ⟨by rfl, ?_⟩) ?_ ?_
            rotate_left
            · intro w'
              go_simp
              with_reducible rfl
            rotate_left
            · simp only [Act.put, List.setIfInBounds_toArray, List.set_cons_zero, List.set_cons_succ, i64_w, i32_w]
              rfl
            refine two_ (i := 0) (j := 9) (Ni := some 30) (Nj := some 39) #[true, true, true, true, false, true, true, true, true, false, false, true, true, true, false, false] #[false, true, true, true, false, true, true, true, true, true, false, true, true, true, false, false] rfl rfl rfl rfl (two_of HT_.out (by kernel_rfl)) (by decide) (by decide) (fun K hK => ?_) (fun K hK => ?_)
            · refine Kd.R_lit_step kI _ 2 ?hg (N := 30) ?hd (xs := ([] : List Int)) (inner := []) (ok := fun _ => True) (okp := fun _ => True) ?hr ?hp (fun _ hk => hk) trivial (Below.refl _ _) (Nat.le_refl _) (by simp) ?_
              (case hd => rfl)
              (case hg => rfl)
              (case hr => first | (go_simp; done) | (go_simp; rfl))
              (case hp => exact (Reps.none _ _))
              intro vA11 wA11 ho hb hg_ hnew_
              clear hg_ hnew_
              have HS_ := A0_ (Sp.made' HS.out hb ho)
              clear HS
              have HS := HS_
              clear HS_
              clear hb ho
              obtain ⟨AA11, cA11, eA_⟩ := Sp.slice HS.out (i := 0) rfl
              subst eA_
              refine hK.out _ _ (pw_cell_below HS.out.below HXC.out) (fun hHeld => ?_)
              clear hK K
              refine norm_ (a' := ?_) ?_ ?_
              rotate_left
              · show Act.put _ (some 30) _ = _
                simp only [Act.put, List.setIfInBounds_toArray, List.set_cons_zero, List.set_cons_succ, i64_w, i32_w]
                rfl
              refine two_ (i := 4) (j := 9) (Ni := some 34) (Nj := some 39) #[true, true, true, true, true, true, true, true, true, false, false, true, true, true, false, false] #[true, true, true, true, false, true, true, true, true, true, false, true, true, true, false, false] rfl rfl rfl rfl (two_of HT_.out (by kernel_rfl)) (by decide) (by decide) (fun K hK => ?_) (fun K hK => ?_)
              · obtain ⟨fp_, ho_, hf_, hc_⟩ := Sp.row HS.out (i := 0) rfl
                refine Kd.R_append_rows_step kI w.heap.size (by rfl) (.tmp 30) (.tmp 33) 32 2 (.int .i64 0) 8 rfl Tryd.underlying32 info2 rfl (by decide) (by omega) _ ([] : List Int) (out.take p) _ _ _ _ (fun _ => False) rfl rfl ho_ (HCT.out _ (Sp.reads HS.out (i := 1) rfl).2.2) (fun _ _ h => h) (fun _ h => h.elim) (fun _ h => .inr h) HS.out.below HS.out.below.size ?aL ?_
                (case aL => have := HOL.out; have := HP.out; simp only [List.length_append, List.length_take, List.length_drop, List.length_singleton, List.length_cons, List.length_nil]; omega)
                intro vA12 wA12 ho hb hg hat
                have HS_ := A0_ (hc_ _ _ _ ho hg)
                clear HS
                have HS := HS_
                clear HS_
                clear ho hb hg hat ho_ hf_ hc_ fp_
                obtain ⟨AA12, cA12, eA_⟩ := Sp.slice HS.out (i := 0) rfl
                subst eA_
                refine hK.out _ _ (pw_cell_below HS.out.below HXC.out) (fun hHeld => ?_)
                clear hK K
                refine norm_ (a' := ?_) ?_ ?_
                rotate_left
                · show Act.put _ (some 34) _ = _
                  simp only [Act.put, List.setIfInBounds_toArray, List.set_cons_zero, List.set_cons_succ, i64_w, i32_w]
                  rfl
                refine one_ (i := 9) (N := some 39) #[true, true, true, true, true, true, true, true, true, true, false, true, true, true, false, false] rfl rfl (one_of HT_.out (by kernel_rfl)) (by decide) (fun K hK => ?_)
                refine Kd.R_lit_step kI _ 2 ?hg (N := 39) ?hd (xs := ([x] : List Int)) (inner := [.int .i64 x]) (ok := fun _ => True) (okp := fun _ => True) ?hr ?hp (fun _ hk => hk) trivial (Below.refl _ _) (Nat.le_refl _) (by simp) ?_
                (case hd => rfl)
                (case hg => rfl)
                (case hr => first | (go_simp; done) | (go_simp; rfl))
                (case hp => exact (Reps.one rfl (Reps.none _ _)))
                intro vA13 wA13 ho hb hg_ hnew_
                clear hg_ hnew_
                have HS_ := A0_ (Sp.made' HS.out hb ho)
                clear HS
                have HS := HS_
                clear HS_
                clear hb ho
                obtain ⟨AA13, cA13, eA_⟩ := Sp.slice HS.out (i := 0) rfl
                subst eA_
                refine hK.out _ _ (pw_cell_below HS.out.below HXC.out) (fun hHeld => ?_)
                clear hK K
                refine norm_ (a' := ?_) ?_ ?_
                rotate_left
                · show Act.put _ (some 39) _ = _
                  simp only [Act.put, List.setIfInBounds_toArray, List.set_cons_zero, List.set_cons_succ, i64_w, i32_w]
                  rfl
                refine one_ (i := 10) (N := some 40) #[true, true, true, true, true, true, true, true, true, true, true, true, true, true, false, false] rfl rfl (one_of HT_.out (by kernel_rfl)) (by decide) (fun K hK => ?_)
                obtain ⟨fp_, ho_, hf_, hc_⟩ := Sp.row HS.out (i := 1) rfl
                refine Kd.R_append_rows_step kI w.heap.size (by rfl) (.tmp 34) (.tmp 39) 32 2 (.int .i64 0) 8 rfl Tryd.underlying32 info2 rfl (by decide) (by omega) _ (([] : List Int) ++ out.take p) [x] _ _ _ _ (fun _ => False) rfl rfl ho_ (Sp.reads HS.out (i := 0) rfl).2.2 (fun _ _ h => h) (fun _ h => h.elim) (fun _ h => .inr h) HS.out.below HS.out.below.size ?aL ?_
                (case aL => have := HOL.out; have := HP.out; simp only [List.length_append, List.length_take, List.length_drop, List.length_singleton, List.length_cons, List.length_nil]; omega)
                intro vA14 wA14 ho hb hg hat
                have HS_ := A0_ (hc_ _ _ _ ho hg)
                clear HS
                have HS := HS_
                clear HS_
                clear ho hb hg hat ho_ hf_ hc_ fp_
                obtain ⟨AA14, cA14, eA_⟩ := Sp.slice HS.out (i := 1) rfl
                subst eA_
                refine hK.out _ _ (pw_cell_below HS.out.below HXC.out) (fun hHeld => ?_)
                clear hK K
                refine norm_ (a' := ?_) ?_ ?_
                rotate_left
                · show Act.put _ (some 40) _ = _
                  simp only [Act.put, List.setIfInBounds_toArray, List.set_cons_zero, List.set_cons_succ, i64_w, i32_w]
                  rfl
                refine one_ (i := 14) (N := some 44) #[true, true, true, true, true, true, true, true, true, true, true, true, true, true, true, false] rfl rfl (one_of HT_.out (by kernel_rfl)) (by decide) (fun K hK => ?_)
                obtain ⟨fp_, ho_, hf_, hc_⟩ := Sp.row HS.out (i := 1) rfl
                refine Kd.R_append_rows_step kI w.heap.size (by rfl) (.tmp 40) (.tmp 43) 32 2 (.int .i64 0) 8 rfl Tryd.underlying32 info2 rfl (by decide) (by omega) _ ((([] : List Int) ++ out.take p) ++ [x]) (out.drop p) _ _ _ _ (fun _ => False) rfl rfl ho_ (HCD.out _ (Sp.reads HS.out (i := 2) rfl).2.2) (fun _ _ h => h) (fun _ h => h.elim) (fun _ h => .inr h) HS.out.below HS.out.below.size ?aL ?_
                (case aL => have := HOL.out; have := HP.out; simp only [List.length_append, List.length_take, List.length_drop, List.length_singleton, List.length_cons, List.length_nil]; omega)
                intro vA15 wA15 ho hb hg hat
                have HS_ := A0_ (hc_ _ _ _ ho hg)
                clear HS
                have HS := HS_
                clear HS_
                clear ho hb hg hat ho_ hf_ hc_ fp_
                obtain ⟨AA15, cA15, eA_⟩ := Sp.slice HS.out (i := 1) rfl
                subst eA_
                refine hK.out _ _ (pw_cell_below HS.out.below HXC.out) (fun hHeld => ?_)
                clear hK K
                refine norm_ (a' := ?_) ?_ ?_
                rotate_left
                · show Act.put _ (some 44) _ = _
                  simp only [Act.put, List.setIfInBounds_toArray, List.set_cons_zero, List.set_cons_succ, i64_w, i32_w]
                  rfl
                refine pure_ (i := 15) (N := some 3) (v := ?_) (a' := ?_) #[true, true, true, true, true, true, true, true, true, true, true, true, true, true, true, true] rfl rfl (any_of HT_.out (by kernel_rfl)) (fun _ _ _ h => h) (Or.inl ⟨by rfl, ?_⟩) ?_ ?_
                rotate_left
                · intro w'
                  go_simp
                  with_reducible rfl
                rotate_left
                · simp only [Act.put, List.setIfInBounds_toArray, List.set_cons_zero, List.set_cons_succ, i64_w, i32_w]
                  rfl
                refine done_ (done_of HT_.out (by kernel_rfl)) ?_
                have HS_ := A0_ (Sp.arr (pre := [Res.row kI 2 w.heap.size (.slice AA13 (([x] : List Int)).length cA13) (([x] : List Int)), Res.row kI 2 w.heap.size (.slice AA15 (((([] : List Int) ++ out.take p) ++ [x]) ++ (out.drop p)).length cA15) (((([] : List Int) ++ out.take p) ++ [x]) ++ (out.drop p)), Res.row kI 2 w.heap.size (.slice Ao (out).length co) (out)]) (pre' := [Res.row kI 2 w.heap.size (.slice AA15 (((([] : List Int) ++ out.take p) ++ [x]) ++ (out.drop p)).length cA15) (((([] : List Int) ++ out.take p) ++ [x]) ++ (out.drop p)), Res.row kI 2 w.heap.size (.slice AA13 (([x] : List Int)).length cA13) (([x] : List Int)), Res.row kI 2 w.heap.size (.slice Ao (out).length co) (out)]) (rest := ([] : List Res)) [1, 0, 2] HS.out rfl rfl)
                clear HS
                have HS := HS_
                clear HS_
                go_wp2
                go_roundg k1
                case measure => omega
                case rel =>
                  rw [HW.out]
                  obtain ⟨fpn_, hpn_, hbn_⟩ := Sp.get HS.out (i := 0) rfl
                  have HS2 := Sp.pick (rs' := [Res.row kI 2 w.heap.size (.slice AA15 (((([] : List Int) ++ out.take p) ++ [x]) ++ out.drop p).length cA15) (((([] : List Int) ++ out.take p) ++ [x]) ++ out.drop p)]) HS.out (fun j => j) (fun _ _ e => e) (fun j r h => by cases j with | zero => exact h | succ j => simp at h)
                  rw [HIN.out] at HS2
                  exact ⟨i + 1, AA15, cA15, insAll (l.take (i + 1)), rfl, (by congr 1; rw [← HIN.out]; have := HP.out; simp only [List.length_append, List.length_take, List.length_drop, List.length_singleton, List.length_nil, List.length_cons]; omega), ⟨by have := of_decide_eq_true ci0; omega, by have := HX.out; omega, rfl⟩, ⟨HS2⟩⟩
              · refine Kd.R_lit_step kI _ 2 ?hg (N := 39) ?hd (xs := ([x] : List Int)) (inner := [.int .i64 x]) (ok := fun _ => True) (okp := fun _ => True) ?hr ?hp (fun _ hk => hk) trivial (Below.refl _ _) (Nat.le_refl _) (by simp) ?_
                (case hd => rfl)
                (case hg => rfl)
                (case hr => first | (go_simp; done) | (go_simp; rfl))
                (case hp => exact (Reps.one rfl (Reps.none _ _)))
                intro vA12 wA12 ho hb hg_ hnew_
                clear hg_ hnew_
                have HS_ := A0_ (Sp.made' HS.out hb ho)
                clear HS
                have HS := HS_
                clear HS_
                clear hb ho
                obtain ⟨AA12, cA12, eA_⟩ := Sp.slice HS.out (i := 0) rfl
                subst eA_
                refine hK.out _ _ (pw_cell_below HS.out.below HXC.out) (fun hHeld => ?_)
                clear hK K
                refine norm_ (a' := ?_) ?_ ?_
                rotate_left
                · show Act.put _ (some 39) _ = _
                  simp only [Act.put, List.setIfInBounds_toArray, List.set_cons_zero, List.set_cons_succ, i64_w, i32_w]
                  rfl
                refine one_ (i := 4) (N := some 34) #[true, true, true, true, true, true, true, true, true, true, false, true, true, true, false, false] rfl rfl (one_of HT_.out (by kernel_rfl)) (by decide) (fun K hK => ?_)
                obtain ⟨fp_, ho_, hf_, hc_⟩ := Sp.row HS.out (i := 1) rfl
                refine Kd.R_append_rows_step kI w.heap.size (by rfl) (.tmp 30) (.tmp 33) 32 2 (.int .i64 0) 8 rfl Tryd.underlying32 info2 rfl (by decide) (by omega) _ ([] : List Int) (out.take p) _ _ _ _ (fun _ => False) rfl rfl ho_ (HCT.out _ (Sp.reads HS.out (i := 2) rfl).2.2) (fun _ _ h => h) (fun _ h => h.elim) (fun _ h => .inr h) HS.out.below HS.out.below.size ?aL ?_
                (case aL => have := HOL.out; have := HP.out; simp only [List.length_append, List.length_take, List.length_drop, List.length_singleton, List.length_cons, List.length_nil]; omega)
                intro vA13 wA13 ho hb hg hat
                have HS_ := A0_ (hc_ _ _ _ ho hg)
                clear HS
                have HS := HS_
                clear HS_
                clear ho hb hg hat ho_ hf_ hc_ fp_
                obtain ⟨AA13, cA13, eA_⟩ := Sp.slice HS.out (i := 1) rfl
                subst eA_
                refine hK.out _ _ (pw_cell_below HS.out.below HXC.out) (fun hHeld => ?_)
                clear hK K
                refine norm_ (a' := ?_) ?_ ?_
                rotate_left
                · show Act.put _ (some 34) _ = _
                  simp only [Act.put, List.setIfInBounds_toArray, List.set_cons_zero, List.set_cons_succ, i64_w, i32_w]
                  rfl
                refine one_ (i := 10) (N := some 40) #[true, true, true, true, true, true, true, true, true, true, true, true, true, true, false, false] rfl rfl (one_of HT_.out (by kernel_rfl)) (by decide) (fun K hK => ?_)
                obtain ⟨fp_, ho_, hf_, hc_⟩ := Sp.row HS.out (i := 1) rfl
                refine Kd.R_append_rows_step kI w.heap.size (by rfl) (.tmp 34) (.tmp 39) 32 2 (.int .i64 0) 8 rfl Tryd.underlying32 info2 rfl (by decide) (by omega) _ (([] : List Int) ++ out.take p) [x] _ _ _ _ (fun _ => False) rfl rfl ho_ (Sp.reads HS.out (i := 0) rfl).2.2 (fun _ _ h => h) (fun _ h => h.elim) (fun _ h => .inr h) HS.out.below HS.out.below.size ?aL ?_
                (case aL => have := HOL.out; have := HP.out; simp only [List.length_append, List.length_take, List.length_drop, List.length_singleton, List.length_cons, List.length_nil]; omega)
                intro vA14 wA14 ho hb hg hat
                have HS_ := A0_ (hc_ _ _ _ ho hg)
                clear HS
                have HS := HS_
                clear HS_
                clear ho hb hg hat ho_ hf_ hc_ fp_
                obtain ⟨AA14, cA14, eA_⟩ := Sp.slice HS.out (i := 1) rfl
                subst eA_
                refine hK.out _ _ (pw_cell_below HS.out.below HXC.out) (fun hHeld => ?_)
                clear hK K
                refine norm_ (a' := ?_) ?_ ?_
                rotate_left
                · show Act.put _ (some 40) _ = _
                  simp only [Act.put, List.setIfInBounds_toArray, List.set_cons_zero, List.set_cons_succ, i64_w, i32_w]
                  rfl
                refine one_ (i := 14) (N := some 44) #[true, true, true, true, true, true, true, true, true, true, true, true, true, true, true, false] rfl rfl (one_of HT_.out (by kernel_rfl)) (by decide) (fun K hK => ?_)
                obtain ⟨fp_, ho_, hf_, hc_⟩ := Sp.row HS.out (i := 1) rfl
                refine Kd.R_append_rows_step kI w.heap.size (by rfl) (.tmp 40) (.tmp 43) 32 2 (.int .i64 0) 8 rfl Tryd.underlying32 info2 rfl (by decide) (by omega) _ ((([] : List Int) ++ out.take p) ++ [x]) (out.drop p) _ _ _ _ (fun _ => False) rfl rfl ho_ (HCD.out _ (Sp.reads HS.out (i := 2) rfl).2.2) (fun _ _ h => h) (fun _ h => h.elim) (fun _ h => .inr h) HS.out.below HS.out.below.size ?aL ?_
                (case aL => have := HOL.out; have := HP.out; simp only [List.length_append, List.length_take, List.length_drop, List.length_singleton, List.length_cons, List.length_nil]; omega)
                intro vA15 wA15 ho hb hg hat
                have HS_ := A0_ (hc_ _ _ _ ho hg)
                clear HS
                have HS := HS_
                clear HS_
                clear ho hb hg hat ho_ hf_ hc_ fp_
                obtain ⟨AA15, cA15, eA_⟩ := Sp.slice HS.out (i := 1) rfl
                subst eA_
                refine hK.out _ _ (pw_cell_below HS.out.below HXC.out) (fun hHeld => ?_)
                clear hK K
                refine norm_ (a' := ?_) ?_ ?_
                rotate_left
                · show Act.put _ (some 44) _ = _
                  simp only [Act.put, List.setIfInBounds_toArray, List.set_cons_zero, List.set_cons_succ, i64_w, i32_w]
                  rfl
                refine pure_ (i := 15) (N := some 3) (v := ?_) (a' := ?_) #[true, true, true, true, true, true, true, true, true, true, true, true, true, true, true, true] rfl rfl (any_of HT_.out (by kernel_rfl)) (fun _ _ _ h => h) (Or.inl ⟨by rfl, ?_⟩) ?_ ?_
                rotate_left
                · intro w'
                  go_simp
                  with_reducible rfl
                rotate_left
                · simp only [Act.put, List.setIfInBounds_toArray, List.set_cons_zero, List.set_cons_succ, i64_w, i32_w]
                  rfl
                refine done_ (done_of HT_.out (by kernel_rfl)) ?_
                have HS_ := A0_ (Sp.arr (pre := [Res.row kI 2 w.heap.size (.slice AA12 (([x] : List Int)).length cA12) (([x] : List Int)), Res.row kI 2 w.heap.size (.slice AA15 (((([] : List Int) ++ out.take p) ++ [x]) ++ (out.drop p)).length cA15) (((([] : List Int) ++ out.take p) ++ [x]) ++ (out.drop p)), Res.row kI 2 w.heap.size (.slice Ao (out).length co) (out)]) (pre' := [Res.row kI 2 w.heap.size (.slice AA15 (((([] : List Int) ++ out.take p) ++ [x]) ++ (out.drop p)).length cA15) (((([] : List Int) ++ out.take p) ++ [x]) ++ (out.drop p)), Res.row kI 2 w.heap.size (.slice AA12 (([x] : List Int)).length cA12) (([x] : List Int)), Res.row kI 2 w.heap.size (.slice Ao (out).length co) (out)]) (rest := ([] : List Res)) [1, 0, 2] HS.out rfl rfl)
                clear HS
                have HS := HS_
                clear HS_
                go_wp2
                go_roundg k1
                case measure => omega
                case rel =>
                  rw [HW.out]
                  obtain ⟨fpn_, hpn_, hbn_⟩ := Sp.get HS.out (i := 0) rfl
                  have HS2 := Sp.pick (rs' := [Res.row kI 2 w.heap.size (.slice AA15 (((([] : List Int) ++ out.take p) ++ [x]) ++ out.drop p).length cA15) (((([] : List Int) ++ out.take p) ++ [x]) ++ out.drop p)]) HS.out (fun j => j) (fun _ _ e => e) (fun j r h => by cases j with | zero => exact h | succ j => simp at h)
                  rw [HIN.out] at HS2
                  exact ⟨i + 1, AA15, cA15, insAll (l.take (i + 1)), rfl, (by congr 1; rw [← HIN.out]; have := HP.out; simp only [List.length_append, List.length_take, List.length_drop, List.length_singleton, List.length_nil, List.length_cons]; omega), ⟨by have := of_decide_eq_true ci0; omega, by have := HX.out; omega, rfl⟩, ⟨HS2⟩⟩
            · refine Kd.R_lit_step kI _ 2 ?hg (N := 39) ?hd (xs := ([x] : List Int)) (inner := [.int .i64 x]) (ok := fun _ => True) (okp := fun _ => True) ?hr ?hp (fun _ hk => hk) trivial (Below.refl _ _) (Nat.le_refl _) (by simp) ?_
              (case hd => rfl)
              (case hg => rfl)
              (case hr => first | (go_simp; done) | (go_simp; rfl))
              (case hp => exact (Reps.one rfl (Reps.none _ _)))
              intro vA11 wA11 ho hb hg_ hnew_
              clear hg_ hnew_
              have HS_ := A0_ (Sp.made' HS.out hb ho)
              clear HS
              have HS := HS_
              clear HS_
              clear hb ho
              obtain ⟨AA11, cA11, eA_⟩ := Sp.slice HS.out (i := 0) rfl
              subst eA_
              refine hK.out _ _ (pw_cell_below HS.out.below HXC.out) (fun hHeld => ?_)
              clear hK K
              refine norm_ (a' := ?_) ?_ ?_
              rotate_left
              · show Act.put _ (some 39) _ = _
                simp only [Act.put, List.setIfInBounds_toArray, List.set_cons_zero, List.set_cons_succ, i64_w, i32_w]
                rfl
              refine one_ (i := 0) (N := some 30) #[true, true, true, true, false, true, true, true, true, true, false, true, true, true, false, false] rfl rfl (one_of HT_.out (by kernel_rfl)) (by decide) (fun K hK => ?_)
              refine Kd.R_lit_step kI _ 2 ?hg (N := 30) ?hd (xs := ([] : List Int)) (inner := []) (ok := fun _ => True) (okp := fun _ => True) ?hr ?hp (fun _ hk => hk) trivial (Below.refl _ _) (Nat.le_refl _) (by simp) ?_
              (case hd => rfl)
              (case hg => rfl)
              (case hr => first | (go_simp; done) | (go_simp; rfl))
              (case hp => exact (Reps.none _ _))
              intro vA12 wA12 ho hb hg_ hnew_
              clear hg_ hnew_
              have HS_ := A0_ (Sp.made' HS.out hb ho)
              clear HS
              have HS := HS_
              clear HS_
              clear hb ho
              obtain ⟨AA12, cA12, eA_⟩ := Sp.slice HS.out (i := 0) rfl
              subst eA_
              refine hK.out _ _ (pw_cell_below HS.out.below HXC.out) (fun hHeld => ?_)
              clear hK K
              refine norm_ (a' := ?_) ?_ ?_
              rotate_left
              · show Act.put _ (some 30) _ = _
                simp only [Act.put, List.setIfInBounds_toArray, List.set_cons_zero, List.set_cons_succ, i64_w, i32_w]
                rfl
              refine one_ (i := 4) (N := some 34) #[true, true, true, true, true, true, true, true, true, true, false, true, true, true, false, false] rfl rfl (one_of HT_.out (by kernel_rfl)) (by decide) (fun K hK => ?_)
              obtain ⟨fp_, ho_, hf_, hc_⟩ := Sp.row HS.out (i := 0) rfl
              refine Kd.R_append_rows_step kI w.heap.size (by rfl) (.tmp 30) (.tmp 33) 32 2 (.int .i64 0) 8 rfl Tryd.underlying32 info2 rfl (by decide) (by omega) _ ([] : List Int) (out.take p) _ _ _ _ (fun _ => False) rfl rfl ho_ (HCT.out _ (Sp.reads HS.out (i := 2) rfl).2.2) (fun _ _ h => h) (fun _ h => h.elim) (fun _ h => .inr h) HS.out.below HS.out.below.size ?aL ?_
              (case aL => have := HOL.out; have := HP.out; simp only [List.length_append, List.length_take, List.length_drop, List.length_singleton, List.length_cons, List.length_nil]; omega)
              intro vA13 wA13 ho hb hg hat
              have HS_ := A0_ (hc_ _ _ _ ho hg)
              clear HS
              have HS := HS_
              clear HS_
              clear ho hb hg hat ho_ hf_ hc_ fp_
              obtain ⟨AA13, cA13, eA_⟩ := Sp.slice HS.out (i := 0) rfl
              subst eA_
              refine hK.out _ _ (pw_cell_below HS.out.below HXC.out) (fun hHeld => ?_)
              clear hK K
              refine norm_ (a' := ?_) ?_ ?_
              rotate_left
              · show Act.put _ (some 34) _ = _
                simp only [Act.put, List.setIfInBounds_toArray, List.set_cons_zero, List.set_cons_succ, i64_w, i32_w]
                rfl
              refine one_ (i := 10) (N := some 40) #[true, true, true, true, true, true, true, true, true, true, true, true, true, true, false, false] rfl rfl (one_of HT_.out (by kernel_rfl)) (by decide) (fun K hK => ?_)
              obtain ⟨fp_, ho_, hf_, hc_⟩ := Sp.row HS.out (i := 0) rfl
              refine Kd.R_append_rows_step kI w.heap.size (by rfl) (.tmp 34) (.tmp 39) 32 2 (.int .i64 0) 8 rfl Tryd.underlying32 info2 rfl (by decide) (by omega) _ (([] : List Int) ++ out.take p) [x] _ _ _ _ (fun _ => False) rfl rfl ho_ (Sp.reads HS.out (i := 1) rfl).2.2 (fun _ _ h => h) (fun _ h => h.elim) (fun _ h => .inr h) HS.out.below HS.out.below.size ?aL ?_
              (case aL => have := HOL.out; have := HP.out; simp only [List.length_append, List.length_take, List.length_drop, List.length_singleton, List.length_cons, List.length_nil]; omega)
              intro vA14 wA14 ho hb hg hat
              have HS_ := A0_ (hc_ _ _ _ ho hg)
              clear HS
              have HS := HS_
              clear HS_
              clear ho hb hg hat ho_ hf_ hc_ fp_
              obtain ⟨AA14, cA14, eA_⟩ := Sp.slice HS.out (i := 0) rfl
              subst eA_
              refine hK.out _ _ (pw_cell_below HS.out.below HXC.out) (fun hHeld => ?_)
              clear hK K
              refine norm_ (a' := ?_) ?_ ?_
              rotate_left
              · show Act.put _ (some 40) _ = _
                simp only [Act.put, List.setIfInBounds_toArray, List.set_cons_zero, List.set_cons_succ, i64_w, i32_w]
                rfl
              refine one_ (i := 14) (N := some 44) #[true, true, true, true, true, true, true, true, true, true, true, true, true, true, true, false] rfl rfl (one_of HT_.out (by kernel_rfl)) (by decide) (fun K hK => ?_)
              obtain ⟨fp_, ho_, hf_, hc_⟩ := Sp.row HS.out (i := 0) rfl
              refine Kd.R_append_rows_step kI w.heap.size (by rfl) (.tmp 40) (.tmp 43) 32 2 (.int .i64 0) 8 rfl Tryd.underlying32 info2 rfl (by decide) (by omega) _ ((([] : List Int) ++ out.take p) ++ [x]) (out.drop p) _ _ _ _ (fun _ => False) rfl rfl ho_ (HCD.out _ (Sp.reads HS.out (i := 2) rfl).2.2) (fun _ _ h => h) (fun _ h => h.elim) (fun _ h => .inr h) HS.out.below HS.out.below.size ?aL ?_
              (case aL => have := HOL.out; have := HP.out; simp only [List.length_append, List.length_take, List.length_drop, List.length_singleton, List.length_cons, List.length_nil]; omega)
              intro vA15 wA15 ho hb hg hat
              have HS_ := A0_ (hc_ _ _ _ ho hg)
              clear HS
              have HS := HS_
              clear HS_
              clear ho hb hg hat ho_ hf_ hc_ fp_
              obtain ⟨AA15, cA15, eA_⟩ := Sp.slice HS.out (i := 0) rfl
              subst eA_
              refine hK.out _ _ (pw_cell_below HS.out.below HXC.out) (fun hHeld => ?_)
              clear hK K
              refine norm_ (a' := ?_) ?_ ?_
              rotate_left
              · show Act.put _ (some 44) _ = _
                simp only [Act.put, List.setIfInBounds_toArray, List.set_cons_zero, List.set_cons_succ, i64_w, i32_w]
                rfl
              refine pure_ (i := 15) (N := some 3) (v := ?_) (a' := ?_) #[true, true, true, true, true, true, true, true, true, true, true, true, true, true, true, true] rfl rfl (any_of HT_.out (by kernel_rfl)) (fun _ _ _ h => h) (Or.inl ⟨by rfl, ?_⟩) ?_ ?_
              rotate_left
              · intro w'
                go_simp
                with_reducible rfl
              rotate_left
              · simp only [Act.put, List.setIfInBounds_toArray, List.set_cons_zero, List.set_cons_succ, i64_w, i32_w]
                rfl
              refine done_ (done_of HT_.out (by kernel_rfl)) ?_
              go_wp2
              go_roundg k1
              case measure => omega
              case rel =>
                rw [HW.out]
                obtain ⟨fpn_, hpn_, hbn_⟩ := Sp.get HS.out (i := 0) rfl
                have HS2 := Sp.pick (rs' := [Res.row kI 2 w.heap.size (.slice AA15 (((([] : List Int) ++ out.take p) ++ [x]) ++ out.drop p).length cA15) (((([] : List Int) ++ out.take p) ++ [x]) ++ out.drop p)]) HS.out (fun j => j) (fun _ _ e => e) (fun j r h => by cases j with | zero => exact h | succ j => simp at h)
                rw [HIN.out] at HS2
                exact ⟨i + 1, AA15, cA15, insAll (l.take (i + 1)), rfl, (by congr 1; rw [← HIN.out]; have := HP.out; simp only [List.length_append, List.length_take, List.length_drop, List.length_singleton, List.length_nil, List.length_cons]; omega), ⟨by have := of_decide_eq_true ci0; omega, by have := HX.out; omega, rfl⟩, ⟨HS2⟩⟩
        · have cp0 : decide (p < out.length) = false := decide_eq_false cp
          have hp : p = out.length := by have := HY.out; omega
          have HPE := A0_ (posL_eq out x p (by omega) (fun j hj => HY.out.2.2 j hj (by omega)) (fun h => absurd h cp))
          clear hp cp
          go_wp2
          repeat (go_quiet (fail); try go_wp2)
          have HS_ := A0_ (Sp.drewN HS.out nq)
          clear HS hk2
          have HS := HS_
          clear HS_
          generalize wr.drewN nq = wr at HS ⊢
          have HP := A0_ HY.out.1
          have HIN := A0_ (show ((([] : List Int) ++ out.take p) ++ [x]) ++ out.drop p = insAll (l.take (i + 1)) by rw [HIN0.out, List.nil_append]; unfold insL; rw [HPE.out])
          obtain ⟨i0, hi0, _, hsz, _⟩ := info_parts info2
          have hcap := (Sp.reads HS.out (i := 0) rfl).2.1
          obtain ⟨Ad, hAd⟩ : ∃ Ad, Ad = (if co = p then Ao else Ao.map (·.add (p * 1))) := ⟨_, rfl⟩
          have HCD := A0_ (fun (w1 : World) (h : kI.C w1 Ao out.length out) => (show kI.C w1 Ad (out.length - p) (out.drop p) from by have h1 := Kd.C_drop h HP.out hcap; rw [List.length_drop] at h1; rw [hAd]; exact h1))
          have HCT := A0_ (fun (w1 : World) (h : kI.C w1 Ao out.length out) => (show kI.C w1 Ao p (out.take p) from by have h1 := Kd.C_take h HP.out; rw [List.length_take, Nat.min_eq_left HP.out] at h1; exact h1))
          have hpc : (p ≤ co) = True := eq_true (Nat.le_trans HP.out hcap)
          have hpl : (p ≤ out.length) = True := eq_true HP.out
          have hAd1 : (if co = p then Ao else Option.map (fun x => x.add p) Ao) = Ad := by rw [hAd, Nat.mul_one]
          clear hAd hcap hi0 hsz
          have HS_ := A0_ (Sp.drew HS.out)
          clear HS
          have HS := HS_
          clear HS_
          refine start_ (n := 16) (S := fun w' => w'.cell? (adl.add i) = some (.int .i64 x)) (ds := []) #[false, false, false, false, false, false, false, false, false, false, false, false, false, false, false, false] (by kernel_rfl) rfl rfl (pw_cell_below HS.out.below HXC.out) (fun hHeld => ?_)
          refine with_tabW spec_l12Sorted.tab8 spec_l12Sorted.bits8 (fun HT_ HW_ => ?_)
          generalize wr.drew = wD at HS hHeld ⊢
          refine pure_ (i := 1) (N := some 31) (v := ?_) (a' := ?_) #[false, true, false, false, false, false, false, false, false, false, false, false, false, false, false, false] rfl rfl (any_of HT_.out (by kernel_rfl)) (fun _ _ _ h => h) (Or.inl ⟨by rfl, ?_⟩) ?_ ?_
          rotate_left
          · intro w'
            go_simp
            with_reducible rfl
          rotate_left
          · simp only [Act.put, List.setIfInBounds_toArray, List.set_cons_zero, List.set_cons_succ, i64_w, i32_w]
            rfl
          refine pure_ (i := 2) (N := some 32) (v := ?_) (a' := ?_) #[false, true, true, false, false, false, false, false, false, false, false, false, false, false, false, false] rfl rfl (any_of HT_.out (by kernel_rfl)) (fun _ _ _ h => h) (Or.inl ⟨by rfl, ?_⟩) ?_ ?_
          rotate_left
          · intro w'
            go_simp
            with_reducible rfl
          rotate_left
          · simp only [Act.put, List.setIfInBounds_toArray, List.set_cons_zero, List.set_cons_succ, i64_w, i32_w]
            rfl
          refine pure_ (i := 3) (N := some 33) (v := ?_) (a' := ?_) #[false, true, true, true, false, false, false, false, false, false, false, false, false, false, false, false] rfl rfl (any_of HT_.out (by kernel_rfl)) (fun _ _ _ h => h) (Or.inl ⟨by rfl, ?_⟩) ?_ ?_
          rotate_left
          · intro w'
            go_simp
            with_reducible rfl
          rotate_left
          · simp only [Act.put, List.setIfInBounds_toArray, List.set_cons_zero, List.set_cons_succ, i64_w, i32_w]
            rfl
          refine pure_ (i := 5) (N := some 35) (v := ?_) (a' := ?_) #[false, true, true, true, false, true, false, false, false, false, false, false, false, false, false, false] rfl rfl (any_of HT_.out (by kernel_rfl)) (fun _ _ _ h => h) (Or.inl ⟨by rfl, ?_⟩) ?_ ?_
          rotate_left
          · intro w'
            go_simp
            with_reducible rfl
          rotate_left
          · simp only [Act.put, List.setIfInBounds_toArray, List.set_cons_zero, List.set_cons_succ, i64_w, i32_w]
            rfl
          refine pure_ (i := 6) (N := some 36) (v := ?_) (a' := ?_) #[false, true, true, true, false, true, true, false, false, false, false, false, false, false, false, false] rfl rfl (any_of HT_.out (by kernel_rfl)) (fun _ _ _ h => h) (Or.inl ⟨by rfl, ?_⟩) ?_ ?_
          rotate_left
          · intro w'
            go_simp
            with_reducible rfl
          rotate_left
          · simp only [Act.put, List.setIfInBounds_toArray, List.set_cons_zero, List.set_cons_succ, i64_w, i32_w]
            rfl
          refine pure_ (i := 7) (N := some 37) (v := ?_) (a' := ?_) #[false, true, true, true, false, true, true, true, false, false, false, false, false, false, false, false] rfl rfl (any_of HT_.out (by kernel_rfl)) (fun _ _ _ h => h) (Or.inl ⟨by rfl, ?_⟩) ?_ ?_
          rotate_left
          · intro w'
            go_simp
            with_reducible rfl
          rotate_left
          · simp only [Act.put, List.setIfInBounds_toArray, List.set_cons_zero, List.set_cons_succ, i64_w, i32_w]
            rfl
          refine take_ (i := 8) (N := some 38) (v := ?_) (a' := ?_) #[false, true, true, true, false, true, true, true, true, false, false, false, false, false, false, false] rfl rfl (take_ofW HT_.out HW_.out (by kernel_rfl)) (fun _ _ _ h => h) (Or.inl ⟨by rfl, ?_⟩) hHeld ?_ ?_
          rotate_left
          · rintro w' s0
            go_simp
            with_reducible rfl
          rotate_left
          · simp only [Act.put, List.setIfInBounds_toArray, List.set_cons_zero, List.set_cons_succ, i64_w, i32_w]
            rfl
          refine pure_ (i := 11) (N := some 41) (v := ?_) (a' := ?_) #[false, true, true, true, false, true, true, true, true, false, false, true, false, false, false, false] rfl rfl (any_of HT_.out (by kernel_rfl)) (fun _ _ _ h => h) (Or.inl ⟨by rfl, ?_⟩) ?_ ?_
          rotate_left
          · intro w'
            go_simp
            with_reducible rfl
          rotate_left
          · simp only [Act.put, List.setIfInBounds_toArray, List.set_cons_zero, List.set_cons_succ, i64_w, i32_w]
            rfl
          refine pure_ (i := 12) (N := some 42) (v := ?_) (a' := ?_) #[false, true, true, true, false, true, true, true, true, false, false, true, true, false, false, false] rfl rfl (any_of HT_.out (by kernel_rfl)) (fun _ _ _ h => h) (Or.inl ⟨by rfl, ?_⟩) ?_ ?_
          rotate_left
          · intro w'
            go_simp
            with_reducible rfl
          rotate_left
          · simp only [Act.put, List.setIfInBounds_toArray, List.set_cons_zero, List.set_cons_succ, i64_w, i32_w]
            rfl
          refine pure_ (i := 13) (N := some 43) (v := ?_) (a' := ?_) #[false, true, true, true, false, true, true, true, true, false, false, true, true, true, false, false] rfl rfl (any_of HT_.out (by kernel_rfl)) (fun _ _ _ h => h) (Or.inl ⟨by rfl, ?_⟩) ?_ ?_
          rotate_left
          · intro w'
            go_simp
            with_reducible rfl
          rotate_left
          · simp only [Act.put, List.setIfInBounds_toArray, List.set_cons_zero, List.set_cons_succ, i64_w, i32_w]
            rfl
          refine two_ (i := 0) (j := 9) (Ni := some 30) (Nj := some 39) #[true, true, true, true, false, true, true, true, true, false, false, true, true, true, false, false] #[false, true, true, true, false, true, true, true, true, true, false, true, true, true, false, false] rfl rfl rfl rfl (two_of HT_.out (by kernel_rfl)) (by decide) (by decide) (fun K hK => ?_) (fun K hK => ?_)
          · refine Kd.R_lit_step kI _ 2 ?hg (N := 30) ?hd (xs := ([] : List Int)) (inner := []) (ok := fun _ => True) (okp := fun _ => True) ?hr ?hp (fun _ hk => hk) trivial (Below.refl _ _) (Nat.le_refl _) (by simp) ?_
            (case hd => rfl)
            (case hg => rfl)
            (case hr => first | (go_simp; done) | (go_simp; rfl))
            (case hp => exact (Reps.none _ _))
            intro vA11 wA11 ho hb hg_ hnew_
            clear hg_ hnew_
            have HS_ := A0_ (Sp.made' HS.out hb ho)
            clear HS
            have HS := HS_
            clear HS_
            clear hb ho
            obtain ⟨AA11, cA11, eA_⟩ := Sp.slice HS.out (i := 0) rfl
            subst eA_
            refine hK.out _ _ (pw_cell_below HS.out.below HXC.out) (fun hHeld => ?_)
            clear hK K
            refine norm_ (a' := ?_) ?_ ?_
            rotate_left
            · show Act.put _ (some 30) _ = _
              simp only [Act.put, List.setIfInBounds_toArray, List.set_cons_zero, List.set_cons_succ, i64_w, i32_w]
              rfl
            refine two_ (i := 4) (j := 9) (Ni := some 34) (Nj := some 39) #[true, true, true, true, true, true, true, true, true, false, false, true, true, true, false, false] #[true, true, true, true, false, true, true, true, true, true, false, true, true, true, false, false] rfl rfl rfl rfl (two_of HT_.out (by kernel_rfl)) (by decide) (by decide) (fun K hK => ?_) (fun K hK => ?_)
            · obtain ⟨fp_, ho_, hf_, hc_⟩ := Sp.row HS.out (i := 0) rfl
              refine Kd.R_append_rows_step kI w.heap.size (by rfl) (.tmp 30) (.tmp 33) 32 2 (.int .i64 0) 8 rfl Tryd.underlying32 info2 rfl (by decide) (by omega) _ ([] : List Int) (out.take p) _ _ _ _ (fun _ => False) rfl rfl ho_ (HCT.out _ (Sp.reads HS.out (i := 1) rfl).2.2) (fun _ _ h => h) (fun _ h => h.elim) (fun _ h => .inr h) HS.out.below HS.out.below.size ?aL ?_
              (case aL => have := HOL.out; have := HP.out; simp only [List.length_append, List.length_take, List.length_drop, List.length_singleton, List.length_cons, List.length_nil]; omega)
              intro vA12 wA12 ho hb hg hat
              have HS_ := A0_ (hc_ _ _ _ ho hg)
              clear HS
              have HS := HS_
              clear HS_
              clear ho hb hg hat ho_ hf_ hc_ fp_
              obtain ⟨AA12, cA12, eA_⟩ := Sp.slice HS.out (i := 0) rfl
              subst eA_
              refine hK.out _ _ (pw_cell_below HS.out.below HXC.out) (fun hHeld => ?_)
              clear hK K
              refine norm_ (a' := ?_) ?_ ?_
              rotate_left
              · show Act.put _ (some 34) _ = _
                simp only [Act.put, List.setIfInBounds_toArray, List.set_cons_zero, List.set_cons_succ, i64_w, i32_w]
                rfl
              refine one_ (i := 9) (N := some 39) #[true, true, true, true, true, true, true, true, true, true, false, true, true, true, false, false] rfl rfl (one_of HT_.out (by kernel_rfl)) (by decide) (fun K hK => ?_)
              refine Kd.R_lit_step kI _ 2 ?hg (N := 39) ?hd (xs := ([x] : List Int)) (inner := [.int .i64 x]) (ok := fun _ => True) (okp := fun _ => True) ?hr ?hp (fun _ hk => hk) trivial (Below.refl _ _) (Nat.le_refl _) (by simp) ?_
              (case hd => rfl)
              (case hg => rfl)
              (case hr => first | (go_simp; done) | (go_simp; rfl))
              (case hp => exact (Reps.one rfl (Reps.none _ _)))
              intro vA13 wA13 ho hb hg_ hnew_
              clear hg_ hnew_
              have HS_ := A0_ (Sp.made' HS.out hb ho)
              clear HS
              have HS := HS_
              clear HS_
              clear hb ho
              obtain ⟨AA13, cA13, eA_⟩ := Sp.slice HS.out (i := 0) rfl
              subst eA_
              refine hK.out _ _ (pw_cell_below HS.out.below HXC.out) (fun hHeld => ?_)
              clear hK K
              refine norm_ (a' := ?_) ?_ ?_
              rotate_left
              · show Act.put _ (some 39) _ = _
                simp only [Act.put, List.setIfInBounds_toArray, List.set_cons_zero, List.set_cons_succ, i64_w, i32_w]
                rfl
              refine one_ (i := 10) (N := some 40) #[true, true, true, true, true, true, true, true, true, true, true, true, true, true, false, false] rfl rfl (one_of HT_.out (by kernel_rfl)) (by decide) (fun K hK => ?_)
              obtain ⟨fp_, ho_, hf_, hc_⟩ := Sp.row HS.out (i := 1) rfl
              refine Kd.R_append_rows_step kI w.heap.size (by rfl) (.tmp 34) (.tmp 39) 32 2 (.int .i64 0) 8 rfl Tryd.underlying32 info2 rfl (by decide) (by omega) _ (([] : List Int) ++ out.take p) [x] _ _ _ _ (fun _ => False) rfl rfl ho_ (Sp.reads HS.out (i := 0) rfl).2.2 (fun _ _ h => h) (fun _ h => h.elim) (fun _ h => .inr h) HS.out.below HS.out.below.size ?aL ?_
              (case aL => have := HOL.out; have := HP.out; simp only [List.length_append, List.length_take, List.length_drop, List.length_singleton, List.length_cons, List.length_nil]; omega)
              intro vA14 wA14 ho hb hg hat
              have HS_ := A0_ (hc_ _ _ _ ho hg)
              clear HS
              have HS := HS_
              clear HS_
              clear ho hb hg hat ho_ hf_ hc_ fp_
              obtain ⟨AA14, cA14, eA_⟩ := Sp.slice HS.out (i := 1) rfl
              subst eA_
              refine hK.out _ _ (pw_cell_below HS.out.below HXC.out) (fun hHeld => ?_)
              clear hK K
              refine norm_ (a' := ?_) ?_ ?_
              rotate_left
              · show Act.put _ (some 40) _ = _
                simp only [Act.put, List.setIfInBounds_toArray, List.set_cons_zero, List.set_cons_succ, i64_w, i32_w]
                rfl
              refine one_ (i := 14) (N := some 44) #[true, true, true, true, true, true, true, true, true, true, true, true, true, true, true, false] rfl rfl (one_of HT_.out (by kernel_rfl)) (by decide) (fun K hK => ?_)
              obtain ⟨fp_, ho_, hf_, hc_⟩ := Sp.row HS.out (i := 1) rfl
              refine Kd.R_append_rows_step kI w.heap.size (by rfl) (.tmp 40) (.tmp 43) 32 2 (.int .i64 0) 8 rfl Tryd.underlying32 info2 rfl (by decide) (by omega) _ ((([] : List Int) ++ out.take p) ++ [x]) (out.drop p) _ _ _ _ (fun _ => False) rfl rfl ho_ (HCD.out _ (Sp.reads HS.out (i := 2) rfl).2.2) (fun _ _ h => h) (fun _ h => h.elim) (fun _ h => .inr h) HS.out.below HS.out.below.size ?aL ?_
              (case aL => have := HOL.out; have := HP.out; simp only [List.length_append, List.length_take, List.length_drop, List.length_singleton, List.length_cons, List.length_nil]; omega)
              intro vA15 wA15 ho hb hg hat
              have HS_ := A0_ (hc_ _ _ _ ho hg)
              clear HS
              have HS := HS_
              clear HS_
              clear ho hb hg hat ho_ hf_ hc_ fp_
              obtain ⟨AA15, cA15, eA_⟩ := Sp.slice HS.out (i := 1) rfl
              subst eA_
              refine hK.out _ _ (pw_cell_below HS.out.below HXC.out) (fun hHeld => ?_)
              clear hK K
              refine norm_ (a' := ?_) ?_ ?_
              rotate_left
              · show Act.put _ (some 44) _ = _
                simp only [Act.put, List.setIfInBounds_toArray, List.set_cons_zero, List.set_cons_succ, i64_w, i32_w]
                rfl
              refine pure_ (i := 15) (N := some 3) (v := ?_) (a' := ?_) #[true, true, true, true, true, true, true, true, true, true, true, true, true, true, true, true] rfl rfl (any_of HT_.out (by kernel_rfl)) (fun _ _ _ h => h) (Or.inl ⟨by rfl, ?_⟩) ?_ ?_
              rotate_left
              · intro w'
                go_simp
                with_reducible rfl
              rotate_left
              · simp only [Act.put, List.setIfInBounds_toArray, List.set_cons_zero, List.set_cons_succ, i64_w, i32_w]
                rfl
              refine done_ (done_of HT_.out (by kernel_rfl)) ?_
              have HS_ := A0_ (Sp.arr (pre := [Res.row kI 2 w.heap.size (.slice AA13 (([x] : List Int)).length cA13) (([x] : List Int)), Res.row kI 2 w.heap.size (.slice AA15 (((([] : List Int) ++ out.take p) ++ [x]) ++ (out.drop p)).length cA15) (((([] : List Int) ++ out.take p) ++ [x]) ++ (out.drop p)), Res.row kI 2 w.heap.size (.slice Ao (out).length co) (out)]) (pre' := [Res.row kI 2 w.heap.size (.slice AA15 (((([] : List Int) ++ out.take p) ++ [x]) ++ (out.drop p)).length cA15) (((([] : List Int) ++ out.take p) ++ [x]) ++ (out.drop p)), Res.row kI 2 w.heap.size (.slice AA13 (([x] : List Int)).length cA13) (([x] : List Int)), Res.row kI 2 w.heap.size (.slice Ao (out).length co) (out)]) (rest := ([] : List Res)) [1, 0, 2] HS.out rfl rfl)
              clear HS
              have HS := HS_
              clear HS_
              go_wp2
              go_roundg k1
              case measure => omega
              case rel =>
                rw [HW.out]
                obtain ⟨fpn_, hpn_, hbn_⟩ := Sp.get HS.out (i := 0) rfl
                have HS2 := Sp.pick (rs' := [Res.row kI 2 w.heap.size (.slice AA15 (((([] : List Int) ++ out.take p) ++ [x]) ++ out.drop p).length cA15) (((([] : List Int) ++ out.take p) ++ [x]) ++ out.drop p)]) HS.out (fun j => j) (fun _ _ e => e) (fun j r h => by cases j with | zero => exact h | succ j => simp at h)
                rw [HIN.out] at HS2
                exact ⟨i + 1, AA15, cA15, insAll (l.take (i + 1)), rfl, (by congr 1; rw [← HIN.out]; have := HP.out; simp only [List.length_append, List.length_take, List.length_drop, List.length_singleton, List.length_nil, List.length_cons]; omega), ⟨by have := of_decide_eq_true ci0; omega, by have := HX.out; omega, rfl⟩, ⟨HS2⟩⟩
            · refine Kd.R_lit_step kI _ 2 ?hg (N := 39) ?hd (xs := ([x] : List Int)) (inner := [.int .i64 x]) (ok := fun _ => True) (okp := fun _ => True) ?hr ?hp (fun _ hk => hk) trivial (Below.refl _ _) (Nat.le_refl _) (by simp) ?_
              (case hd => rfl)
              (case hg => rfl)
              (case hr => first | (go_simp; done) | (go_simp; rfl))
              (case hp => exact (Reps.one rfl (Reps.none _ _)))
              intro vA12 wA12 ho hb hg_ hnew_
              clear hg_ hnew_
              have HS_ := A0_ (Sp.made' HS.out hb ho)
              clear HS
              have HS := HS_
              clear HS_
              clear hb ho
              obtain ⟨AA12, cA12, eA_⟩ := Sp.slice HS.out (i := 0) rfl
              subst eA_
              refine hK.out _ _ (pw_cell_below HS.out.below HXC.out) (fun hHeld => ?_)
              clear hK K
              refine norm_ (a' := ?_) ?_ ?_
              rotate_left
              · show Act.put _ (some 39) _ = _
                simp only [Act.put, List.setIfInBounds_toArray, List.set_cons_zero, List.set_cons_succ, i64_w, i32_w]
                rfl
              refine one_ (i := 4) (N := some 34) #[true, true, true, true, true, true, true, true, true, true, false, true, true, true, false, false] rfl rfl (one_of HT_.out (by kernel_rfl)) (by decide) (fun K hK => ?_)
              obtain ⟨fp_, ho_, hf_, hc_⟩ := Sp.row HS.out (i := 1) rfl
              refine Kd.R_append_rows_step kI w.heap.size (by rfl) (.tmp 30) (.tmp 33) 32 2 (.int .i64 0) 8 rfl Tryd.underlying32 info2 rfl (by decide) (by omega) _ ([] : List Int) (out.take p) _ _ _ _ (fun _ => False) rfl rfl ho_ (HCT.out _ (Sp.reads HS.out (i := 2) rfl).2.2) (fun _ _ h => h) (fun _ h => h.elim) (fun _ h => .inr h) HS.out.below HS.out.below.size ?aL ?_
              (case aL => have := HOL.out; have := HP.out; simp only [List.length_append, List.length_take, List.length_drop, List.length_singleton, List.length_cons, List.length_nil]; omega)
              intro vA13 wA13 ho hb hg hat
              have HS_ := A0_ (hc_ _ _ _ ho hg)
              clear HS
              have HS := HS_
              clear HS_
              clear ho hb hg hat ho_ hf_ hc_ fp_
              obtain ⟨AA13, cA13, eA_⟩ := Sp.slice HS.out (i := 1) rfl
              subst eA_
              refine hK.out _ _ (pw_cell_below HS.out.below HXC.out) (fun hHeld => ?_)
              clear hK K
              refine norm_ (a' := ?_) ?_ ?_
              rotate_left
              · show Act.put _ (some 34) _ = _
                simp only [Act.put, List.setIfInBounds_toArray, List.set_cons_zero, List.set_cons_succ, i64_w, i32_w]
                rfl
              refine one_ (i := 10) (N := some 40) #[true, true, true, true, true, true, true, true, true, true, true, true, true, true, false, false] rfl rfl (one_of HT_.out (by kernel_rfl)) (by decide) (fun K hK => ?_)
              obtain ⟨fp_, ho_, hf_, hc_⟩ := Sp.row HS.out (i := 1) rfl
              refine Kd.R_append_rows_step kI w.heap.size (by rfl) (.tmp 34) (.tmp 39) 32 2 (.int .i64 0) 8 rfl Tryd.underlying32 info2 rfl (by decide) (by omega) _ (([] : List Int) ++ out.take p) [x] _ _ _ _ (fun _ => False) rfl rfl ho_ (Sp.reads HS.out (i := 0) rfl).2.2 (fun _ _ h => h) (fun _ h => h.elim) (fun _ h => .inr h) HS.out.below HS.out.below.size ?aL ?_
              (case aL => have := HOL.out; have := HP.out; simp only [List.length_append, List.length_take, List.length_drop, List.length_singleton, List.length_cons, List.length_nil]; omega)
              intro vA14 wA14 ho hb hg hat
              have HS_ := A0_ (hc_ _ _ _ ho hg)
              clear HS
              have HS := HS_
              clear HS_
              clear ho hb hg hat ho_ hf_ hc_ fp_
              obtain ⟨AA14, cA14, eA_⟩ := Sp.slice HS.out (i := 1) rfl
              subst eA_
              refine hK.out _ _ (pw_cell_below HS.out.below HXC.out) (fun hHeld => ?_)
              clear hK K
              refine norm_ (a' := ?_) ?_ ?_
              rotate_left
              · show Act.put _ (some 40) _ = _
                simp only [Act.put, List.setIfInBounds_toArray, List.set_cons_zero, List.set_cons_succ, i64_w, i32_w]
                rfl
              refine one_ (i := 14) (N := some 44) #[true, true, true, true, true, true, true, true, true, true, true, true, true, true, true, false] rfl rfl (one_of HT_.out (by kernel_rfl)) (by decide) (fun K hK => ?_)
              obtain ⟨fp_, ho_, hf_, hc_⟩ := Sp.row HS.out (i := 1) rfl
              refine Kd.R_append_rows_step kI w.heap.size (by rfl) (.tmp 40) (.tmp 43) 32 2 (.int .i64 0) 8 rfl Tryd.underlying32 info2 rfl (by decide) (by omega) _ ((([] : List Int) ++ out.take p) ++ [x]) (out.drop p) _ _ _ _ (fun _ => False) rfl rfl ho_ (HCD.out _ (Sp.reads HS.out (i := 2) rfl).2.2) (fun _ _ h => h) (fun _ h => h.elim) (fun _ h => .inr h) HS.out.below HS.out.below.size ?aL ?_
              (case aL => have := HOL.out; have := HP.out; simp only [List.length_append, List.length_take, List.length_drop, List.length_singleton, List.length_cons, List.length_nil]; omega)
              intro vA15 wA15 ho hb hg hat
              have HS_ := A0_ (hc_ _ _ _ ho hg)
              clear HS
              have HS := HS_
              clear HS_
              clear ho hb hg hat ho_ hf_ hc_ fp_
              obtain ⟨AA15, cA15, eA_⟩ := Sp.slice HS.out (i := 1) rfl
              subst eA_
              refine hK.out _ _ (pw_cell_below HS.out.below HXC.out) (fun hHeld => ?_)
              clear hK K
              refine norm_ (a' := ?_) ?_ ?_
              rotate_left
              · show Act.put _ (some 44) _ = _
                simp only [Act.put, List.setIfInBounds_toArray, List.set_cons_zero, List.set_cons_succ, i64_w, i32_w]
                rfl
              refine pure_ (i := 15) (N := some 3) (v := ?_) (a' := ?_) #[true, true, true, true, true, true, true, true, true, true, true, true, true, true, true, true] rfl rfl (any_of HT_.out (by kernel_rfl)) (fun _ _ _ h => h) (Or.inl ⟨by rfl, ?_⟩) ?_ ?_
              rotate_left
              · intro w'
                go_simp
                with_reducible rfl
              rotate_left
              · simp only [Act.put, List.setIfInBounds_toArray, List.set_cons_zero, List.set_cons_succ, i64_w, i32_w]
                rfl
              refine done_ (done_of HT_.out (by kernel_rfl)) ?_
              have HS_ := A0_ (Sp.arr (pre := [Res.row kI 2 w.heap.size (.slice AA12 (([x] : List Int)).length cA12) (([x] : List Int)), Res.row kI 2 w.heap.size (.slice AA15 (((([] : List Int) ++ out.take p) ++ [x]) ++ (out.drop p)).length cA15) (((([] : List Int) ++ out.take p) ++ [x]) ++ (out.drop p)), Res.row kI 2 w.heap.size (.slice Ao (out).length co) (out)]) (pre' := [Res.row kI 2 w.heap.size (.slice AA15 (((([] : List Int) ++ out.take p) ++ [x]) ++ (out.drop p)).length cA15) (((([] : List Int) ++ out.take p) ++ [x]) ++ (out.drop p)), Res.row kI 2 w.heap.size (.slice AA12 (([x] : List Int)).length cA12) (([x] : List Int)), Res.row kI 2 w.heap.size (.slice Ao (out).length co) (out)]) (rest := ([] : List Res)) [1, 0, 2] HS.out rfl rfl)
              clear HS
              have HS := HS_
              clear HS_
              go_wp2
              go_roundg k1
              case measure => omega
              case rel =>
                rw [HW.out]
                obtain ⟨fpn_, hpn_, hbn_⟩ := Sp.get HS.out (i := 0) rfl
                have HS2 := Sp.pick (rs' := [Res.row kI 2 w.heap.size (.slice AA15 (((([] : List Int) ++ out.take p) ++ [x]) ++ out.drop p).length cA15) (((([] : List Int) ++ out.take p) ++ [x]) ++ out.drop p)]) HS.out (fun j => j) (fun _ _ e => e) (fun j r h => by cases j with | zero => exact h | succ j => simp at h)
                rw [HIN.out] at HS2
                exact ⟨i + 1, AA15, cA15, insAll (l.take (i + 1)), rfl, (by congr 1; rw [← HIN.out]; have := HP.out; simp only [List.length_append, List.length_take, List.length_drop, List.length_singleton, List.length_nil, List.length_cons]; omega), ⟨by have := of_decide_eq_true ci0; omega, by have := HX.out; omega, rfl⟩, ⟨HS2⟩⟩
          · refine Kd.R_lit_step kI _ 2 ?hg (N := 39) ?hd (xs := ([x] : List Int)) (inner := [.int .i64 x]) (ok := fun _ => True) (okp := fun _ => True) ?hr ?hp (fun _ hk => hk) trivial (Below.refl _ _) (Nat.le_refl _) (by simp) ?_
            (case hd => rfl)
            (case hg => rfl)
            (case hr => first | (go_simp; done) | (go_simp; rfl))
            (case hp => exact (Reps.one rfl (Reps.none _ _)))
            intro vA11 wA11 ho hb hg_ hnew_
            clear hg_ hnew_
            have HS_ := A0_ (Sp.made' HS.out hb ho)
            clear HS
            have HS := HS_
            clear HS_
            clear hb ho
            obtain ⟨AA11, cA11, eA_⟩ := Sp.slice HS.out (i := 0) rfl
            subst eA_
            refine hK.out _ _ (pw_cell_below HS.out.below HXC.out) (fun hHeld => ?_)
            clear hK K
            refine norm_ (a' := ?_) ?_ ?_
            rotate_left
            · show Act.put _ (some 39) _ = _
              simp only [Act.put, List.setIfInBounds_toArray, List.set_cons_zero, List.set_cons_succ, i64_w, i32_w]
              rfl
            refine one_ (i := 0) (N := some 30) #[true, true, true, true, false, true, true, true, true, true, false, true, true, true, false, false] rfl rfl (one_of HT_.out (by kernel_rfl)) (by decide) (fun K hK => ?_)
            refine Kd.R_lit_step kI _ 2 ?hg (N := 30) ?hd (xs := ([] : List Int)) (inner := []) (ok := fun _ => True) (okp := fun _ => True) ?hr ?hp (fun _ hk => hk) trivial (Below.refl _ _) (Nat.le_refl _) (by simp) ?_
            (case hd => rfl)
            (case hg => rfl)
            (case hr => first | (go_simp; done) | (go_simp; rfl))
            (case hp => exact (Reps.none _ _))
            intro vA12 wA12 ho hb hg_ hnew_
            clear hg_ hnew_
            have HS_ := A0_ (Sp.made' HS.out hb ho)
            clear HS
            have HS := HS_
            clear HS_
            clear hb ho
            obtain ⟨AA12, cA12, eA_⟩ := Sp.slice HS.out (i := 0) rfl
            subst eA_
            refine hK.out _ _ (pw_cell_below HS.out.below HXC.out) (fun hHeld => ?_)
            clear hK K
            refine norm_ (a' := ?_) ?_ ?_
            rotate_left
            · show Act.put _ (some 30) _ = _
              simp only [Act.put, List.setIfInBounds_toArray, List.set_cons_zero, List.set_cons_succ, i64_w, i32_w]
              rfl
            refine one_ (i := 4) (N := some 34) #[true, true, true, true, true, true, true, true, true, true, false, true, true, true, false, false] rfl rfl (one_of HT_.out (by kernel_rfl)) (by decide) (fun K hK => ?_)
            obtain ⟨fp_, ho_, hf_, hc_⟩ := Sp.row HS.out (i := 0) rfl
            refine Kd.R_append_rows_step kI w.heap.size (by rfl) (.tmp 30) (.tmp 33) 32 2 (.int .i64 0) 8 rfl Tryd.underlying32 info2 rfl (by decide) (by omega) _ ([] : List Int) (out.take p) _ _ _ _ (fun _ => False) rfl rfl ho_ (HCT.out _ (Sp.reads HS.out (i := 2) rfl).2.2) (fun _ _ h => h) (fun _ h => h.elim) (fun _ h => .inr h) HS.out.below HS.out.below.size ?aL ?_
            (case aL => have := HOL.out; have := HP.out; simp only [List.length_append, List.length_take, List.length_drop, List.length_singleton, List.length_cons, List.length_nil]; omega)
            intro vA13 wA13 ho hb hg hat
            have HS_ := A0_ (hc_ _ _ _ ho hg)
            clear HS
            have HS := HS_
            clear HS_
            clear ho hb hg hat ho_ hf_ hc_ fp_
            obtain ⟨AA13, cA13, eA_⟩ := Sp.slice HS.out (i := 0) rfl
            subst eA_
            refine hK.out _ _ (pw_cell_below HS.out.below HXC.out) (fun hHeld => ?_)
            clear hK K
            refine norm_ (a' := ?_) ?_ ?_
            rotate_left
            · show Act.put _ (some 34) _ = _
              simp only [Act.put, List.setIfInBounds_toArray, List.set_cons_zero, List.set_cons_succ, i64_w, i32_w]
              rfl
            refine one_ (i := 10) (N := some 40) #[true, true, true, true, true, true, true, true, true, true, true, true, true, true, false, false] rfl rfl (one_of HT_.out (by kernel_rfl)) (by decide) (fun K hK => ?_)
            obtain ⟨fp_, ho_, hf_, hc_⟩ := Sp.row HS.out (i := 0) rfl
            refine Kd.R_append_rows_step kI w.heap.size (by rfl) (.tmp 34) (.tmp 39) 32 2 (.int .i64 0) 8 rfl Tryd.underlying32 info2 rfl (by decide) (by omega) _ (([] : List Int) ++ out.take p) [x] _ _ _ _ (fun _ => False) rfl rfl ho_ (Sp.reads HS.out (i := 1) rfl).2.2 (fun _ _ h => h) (fun _ h => h.elim) (fun _ h => .inr h) HS.out.below HS.out.below.size ?aL ?_
            (case aL => have := HOL.out; have := HP.out; simp only [List.length_append, List.length_take, List.length_drop, List.length_singleton, List.length_cons, List.length_nil]; omega)
            intro vA14 wA14 ho hb hg hat
            have HS_ := A0_ (hc_ _ _ _ ho hg)
            clear HS
            have HS := HS_
            clear HS_
            clear ho hb hg hat ho_ hf_ hc_ fp_
            obtain ⟨AA14, cA14, eA_⟩ := Sp.slice HS.out (i := 0) rfl
            subst eA_
            refine hK.out _ _ (pw_cell_below HS.out.below HXC.out) (fun hHeld => ?_)
            clear hK K
            refine norm_ (a' := ?_) ?_ ?_
            rotate_left
            · show Act.put _ (some 40) _ = _
              simp only [Act.put, List.setIfInBounds_toArray, List.set_cons_zero, List.set_cons_succ, i64_w, i32_w]
              rfl
            refine one_ (i := 14) (N := some 44) #[true, true, true, true, true, true, true, true, true, true, true, true, true, true, true, false] rfl rfl (one_of HT_.out (by kernel_rfl)) (by decide) (fun K hK => ?_)
            obtain ⟨fp_, ho_, hf_, hc_⟩ := Sp.row HS.out (i := 0) rfl
            refine Kd.R_append_rows_step kI w.heap.size (by rfl) (.tmp 40) (.tmp 43) 32 2 (.int .i64 0) 8 rfl Tryd.underlying32 info2 rfl (by decide) (by omega) _ ((([] : List Int) ++ out.take p) ++ [x]) (out.drop p) _ _ _ _ (fun _ => False) rfl rfl ho_ (HCD.out _ (Sp.reads HS.out (i := 2) rfl).2.2) (fun _ _ h => h) (fun _ h => h.elim) (fun _ h => .inr h) HS.out.below HS.out.below.size ?aL ?_
            (case aL => have := HOL.out; have := HP.out; simp only [List.length_append, List.length_take, List.length_drop, List.length_singleton, List.length_cons, List.length_nil]; omega)
            intro vA15 wA15 ho hb hg hat
            have HS_ := A0_ (hc_ _ _ _ ho hg)
            clear HS
            have HS := HS_
            clear HS_
            clear ho hb hg hat ho_ hf_ hc_ fp_
            obtain ⟨AA15, cA15, eA_⟩ := Sp.slice HS.out (i := 0) rfl
            subst eA_
            refine hK.out _ _ (pw_cell_below HS.out.below HXC.out) (fun hHeld => ?_)
            clear hK K
            refine norm_ (a' := ?_) ?_ ?_
            rotate_left
            · show Act.put _ (some 44) _ = _
              simp only [Act.put, List.setIfInBounds_toArray, List.set_cons_zero, List.set_cons_succ, i64_w, i32_w]
              rfl
            refine pure_ (i := 15) (N := some 3) (v := ?_) (a' := ?_) #[true, true, true, true, true, true, true, true, true, true, true, true, true, true, true, true] rfl rfl (any_of HT_.out (by kernel_rfl)) (fun _ _ _ h => h) (Or.inl ⟨by rfl, ?_⟩) ?_ ?_
            rotate_left
            · intro w'
              go_simp
              with_reducible rfl
            rotate_left
            · simp only [Act.put, List.setIfInBounds_toArray, List.set_cons_zero, List.set_cons_succ, i64_w, i32_w]
              rfl
            refine done_ (done_of HT_.out (by kernel_rfl)) ?_
            go_wp2
            go_roundg k1
            case measure => omega
            case rel =>
              rw [HW.out]
              obtain ⟨fpn_, hpn_, hbn_⟩ := Sp.get HS.out (i := 0) rfl
              have HS2 := Sp.pick (rs' := [Res.row kI 2 w.heap.size (.slice AA15 (((([] : List Int) ++ out.take p) ++ [x]) ++ out.drop p).length cA15) (((([] : List Int) ++ out.take p) ++ [x]) ++ out.drop p)]) HS.out (fun j => j) (fun _ _ e => e) (fun j r h => by cases j with | zero => exact h | succ j => simp at h)
              rw [HIN.out] at HS2
              exact ⟨i + 1, AA15, cA15, insAll (l.take (i + 1)), rfl, (by congr 1; rw [← HIN.out]; have := HP.out; simp only [List.length_append, List.length_take, List.length_drop, List.length_singleton, List.length_nil, List.length_cons]; omega), ⟨by have := of_decide_eq_true ci0; omega, by have := HX.out; omega, rfl⟩, ⟨HS2⟩⟩
    · have ci0 : decide (i < l.length) = false := decide_eq_false ci
      have HI := A0_ (show out = sortL l by rw [HX.out.2.2, show i = l.length by have := HX.out; omega, List.take_length, insAll_eq])
      clear ci
      go_wp2
      go_ret
      obtain ⟨fp_, hp_, _⟩ := Sp.get HS.out (i := 0) rfl
      refine ⟨_, rfl, ?_, HS.out.below⟩
      rw [← HI.out]
      exact Kd.R_mono hp_ (fun _ _ => trivial)
end Go.Proofs.YtoglcgnbkibpgaaDoor.A

