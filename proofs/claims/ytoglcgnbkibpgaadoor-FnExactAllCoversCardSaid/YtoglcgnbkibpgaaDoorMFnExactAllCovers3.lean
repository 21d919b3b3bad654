/- What the row of the law FnExactAllCovers stands on, part 3. -/
import Derived.Test.YtoglcgnbkibpgaaDoorMFnExactAllCovers2
/- AllCovers, walked: the program's closure. -/
namespace Go.Proofs.YtoglcgnbkibpgaaDoor.A
open Go.RowKit Go.Proofs.YtoglcgnbkibpgaaDoorW.PrintWords Go.Proofs.YtoglcgnbkibpgaaDoorW.PrintLast Go.Proofs.YtoglcgnbkibpgaaDoorW.PrintMore Go.Proofs.YtoglcgnbkibpgaaDoorW.Cov Go.Proofs.YtoglcgnbkibpgaaDoorW.Tree
set_option linter.unusedVariables false
set_option linter.unusedSimpArgs false
/-- What both AllCovers answer. -/
def allOut (C Q : Int) (rows : List (List Int)) : List (List Int) × Int := if coverOk C Q rows = true then (if (nodesR rows Q).over = true then ([], 3) else if 200 < (nodesR rows Q).found.length then ([], 5) else ((nodesR rows Q).found.map sortL, 0)) else ([], 1)
def stepA (a : List (List Int)) (seq : List Int) : List (List Int) × Bool := (if a.length ≤ 200 then a ++ [sortL seq] else a, true)
theorem stepA_fold (found : List (List Int)) : ∀ a : List (List Int), a.length ≤ 201 → found.foldl (fun a b => (stepA a b).1) a = (a ++ found.map sortL).take 201 := by
  induction found with
  | nil => intro a h; simp [List.take_of_length_le h]
  | cons s found ih =>
    intro a h
    rw [List.foldl_cons]
    by_cases c : a.length ≤ 200
    · have e : (stepA a s).1 = a ++ [sortL s] := if_pos c
      rw [e, ih _ (by simp; omega), List.map_cons, List.append_assoc]
      rfl
    · have e : (stepA a s).1 = a := if_neg c
      rw [e, ih _ h, List.take_append_of_le_length (by omega), List.take_append_of_le_length (by omega)]
/-- What the closure has captured: the rows. -/
def VA (gO base : Nat) (a : List (List Int)) : Res := Res.ex (fun p : Option Addr × Nat => Res.star (Res.rowS kL 32 base (.slice p.1 a.length p.2) a) (Res.blk gO #[.slice p.1 a.length p.2] 22))
theorem va_open {gO : Nat} {w0 w : World} {a : List (List Int)} {rest : List Res} (h : Sp w0 (VA gO w0.heap.size a :: rest) w) : ∃ A c, Sp w0 (Res.rowS kL 32 w0.heap.size (.slice A a.length c) a :: Res.blk gO #[.slice A a.length c] 22 :: rest) w := by
  obtain ⟨p, h1⟩ := Sp.ex_open h (i := 0) rfl
  exact ⟨p.1, p.2, Sp.star_open h1⟩
theorem va_close {gO : Nat} {w0 w : World} {a : List (List Int)} {A : Option Addr} {c : Nat} {rest : List Res} (h : Sp w0 (Res.rowS kL 32 w0.heap.size (.slice A a.length c) a :: Res.blk gO #[.slice A a.length c] 22 :: rest) w) : Sp w0 (VA gO w0.heap.size a :: rest) w :=
  Sp.ex_close (R := fun p : Option Addr × Nat => Res.star (Res.rowS kL 32 w0.heap.size (.slice p.1 a.length p.2) a) (Res.blk gO #[.slice p.1 a.length p.2] 22)) (A, c) (Sp.star_close h) (i := 0) rfl
set_option maxHeartbeats 2000000 in
set_option maxRecDepth 100000 in
theorem visA (w0 : World) (gO m : Nat) : VisC (VA gO w0.heap.size) w0 62 #[.pointer (some ⟨gO, 0, none⟩)] stepA m := by
  refine ⟨_, Tryd.func62, by kernel_rfl, by kernel_rfl, ?_⟩
  intro a seq rest w A c hl hsq_ hs
  obtain ⟨A1, c1, h1⟩ := va_open hs
  have HS := A0_ h1
  have HL := A0_ hl
  clear hs h1 hl hsq_
  show Calls Tryd.prog 62 #[.slice A seq.length c, .pointer (some ⟨gO, 0, none⟩)] w _
  by_cases ca : a.length ≤ 200
  · have ca0 : decide (a.length ≤ 200) = true := decide_eq_true ca
    have ca1 : ((a.length : Int) ≤ 200) = True := eq_true (by omega)
    have HCA := A0_ ca
    have e1 : stepA a seq = (a ++ [sortL seq], true) := by unfold stepA; rw [if_pos ca]
    rw [e1]
    clear ca e1
    have ho0 := (blk_cell (Sp.blk HS.out (i := 1) rfl).1 0).trans rfl
    go_enter Tryd.func62, Tryd.ntmps62
    go_wp2_with (first
      | (go_at_call 52; refine (clone_calls seq A c _ (Sp.reads HS.out (i := 2) rfl).2.2 (Sp.reads HS.out (i := 2) rfl).2.1 (by have := HL.out; omega)).mono ?_; rintro e w1 ⟨v, rfl, ho, hb⟩; have HS_ := A0_ (Sp.made' HS.out hb ho); clear HS; have HS := HS_; clear HS_; clear ho hb ho0; obtain ⟨A2, c2, ev⟩ := Sp.slice HS.out (i := 0) rfl; subst ev)
      | (go_at_call 63; obtain ⟨fp_, ho_, hf_, hc_⟩ := Sp.row HS.out (i := 0) rfl; refine (sort_calls _ _ _ _ _ _ ho_ (by have := HL.out; omega)).mono ?_; rintro e w2 ⟨rfl, hr_, hg_⟩; have HS_ := A0_ (hc_ _ _ _ hr_ hg_); clear HS; have HS := HS_; clear HS_; clear ho_ hf_ hc_ hr_ hg_ fp_; have ho0 := (blk_cell (Sp.blk HS.out (i := 2) rfl).1 0).trans rfl; have zo0 := blk_frozen (Sp.blk HS.out (i := 2) rfl).1 0)
      | ((with_reducible refine gate_builtin (b := .append) (xs := #[.tmp 12, .tmp 14]) rfl ?_); go_loud (at_builtin; obtain ⟨fp_, gp_, hg_, hs_, hd_, hb_, hc_⟩ := Sp.joinS HS.out; refine Kd.S_append kL (w0 := w0) w0.heap.size rfl (.tmp 12) (.tmp 14) 22 32 (.slice none 0 0) 24 rfl Tryd.underlying22 info32 rfl (by decide) (by omega) (.slice A1 a.length c1) (a) (sortL seq) [.slice A2 seq.length c2] (fun k => fp_ k ∨ gp_ k ∨ _ ≤ k) gp_ rfl rfl ⟨_, rfl, hg_⟩ (fun k hk => ⟨Or.inr (Or.inl hk), fun e_ => hd_ k hk ((Kd.S_R hs_).1 k e_.symm)⟩) (fun _ h => Or.inr (Or.inr h)) (Kd.S_mono hs_ (fun k hk => ⟨Or.inl hk, fun hg => hd_ k hg hk⟩)) HS.out.below HS.out.below.size ?aL ?_; (case aL => have := HCA.out; omega); intro va_ wa_ ho hb hg hat; have HS_ := A0_ (hc_ _ _ _ ho hg); clear HS; have HS := HS_; clear HS_; clear ho hb hg hat hc_ hb_ hd_ hs_ hg_ fp_ gp_; obtain ⟨A3, c3, ev_⟩ := Sp.sliceS HS.out (i := 0) rfl; subst ev_; clear ho0 zo0; have ho0 := (blk_cell (Sp.blk HS.out (i := 1) rfl).1 0).trans rfl; have zo0 := blk_frozen (Sp.blk HS.out (i := 1) rfl).1 0)))
    go_ret
    have e : (a ++ [sortL seq]).length = a.length + 1 := by simp
    rw [← e]
    have h3 := Sp.set HS.out 1 rfl 0 (.slice A3 (a ++ [sortL seq]).length c3) (blk_put (cs' := #[.slice A3 (a ++ [sortL seq]).length c3]) (Sp.blk HS.out (i := 1) rfl).1 0 _ rfl)
    exact ⟨rfl, va_close (A := A3) (c := c3) h3⟩
  · have ca0 : decide (a.length ≤ 200) = false := decide_eq_false ca
    have ca1 : ((a.length : Int) ≤ 200) = False := eq_false (by omega)
    have e1 : stepA a seq = (a, true) := by unfold stepA; rw [if_neg ca]
    rw [e1]
    clear ca e1
    have ho0 := (blk_cell (Sp.blk HS.out (i := 1) rfl).1 0).trans rfl
    go_enter Tryd.func62, Tryd.ntmps62
    go_wp2
    go_ret
    exact ⟨rfl, va_close (A := A1) (c := c1) HS.out⟩
theorem all_end {C Q : Int} {rows : List (List Int)} : (endL rows Q stepA []).broken = (nodesR rows Q).over ∧ (endL rows Q stepA []).a = ((nodesR rows Q).found.map sortL).take 201 := by
  have h := all_rel (leafC rows Q.toNat) (kidsC rows Q.toNat) 20000 stepA [] (fun _ _ => rfl) (by decide) Q.toNat []
  rw [show (20000 + 1 : Int) = 20001 from by decide] at h
  refine ⟨h.1, h.2.2.2.2.trans ?_⟩
  exact stepA_fold (nodesR rows Q).found [] (by simp)
def impl_AllCovers.f (k : Nat) (a0_0 a0_1 : Int) (l0_2 : List (List Int)) : Option (List (List Int) × Int) := if sizesOk l0_2 then some (allOut a0_0 a0_1 l0_2) else none
set_option maxHeartbeats 2000000 in
set_option maxRecDepth 100000 in
theorem impl_AllCovers.calls (k : Nat) (a0_0 a0_1 : Int) (A0_2 : Option Addr) (c0_2 : Nat) (l0_2 : List (List Int)) (r1 : List (List Int)) (r2 : Int) (w : World) (hr0_2 : Kd.C (Kd.slice 2 (Kd.int .i64)) w A0_2 l0_2.length l0_2) (hc0_2 : l0_2.length ≤ c0_2) (h : impl_AllCovers.f k a0_0 a0_1 l0_2 = some (r1, r2)) (hT : TabAt 0 Lib.deBruijn64tab w) :
    Calls Tryd.prog 31 #[.agg #[.int .i64 a0_0, .int .i64 a0_1, .slice A0_2 l0_2.length c0_2]] w fun e w' => ∃ v1_ : Value, e = .returned (.tuple #[v1_, .int .i64 r2]) ∧ Kd.S kL 32 w' w.heap.size (fun _ => True) v1_ r1 ∧ Below w.heap.size w w' := by
  unfold impl_AllCovers.f at h
  split at h
  case isFalse => cases h
  rename_i hz
  have h2 := Option.some.inj h
  clear h
  unfold allOut at h2
  have HZ := A0_ hz
  have HT := A0_ hT
  have HR := A0_ hr0_2
  have HS := A0_ (Sp.start w)
  clear hz hT hr0_2
  by_cases c : coverOk a0_0 a0_1 l0_2 = true
  · rw [if_pos c] at h2
    have HC := A0_ c
    obtain ⟨e1, e2⟩ := all_end (C := a0_0) (Q := a0_1) (rows := l0_2)
    have HSEA0 := A0_ (fun gO rest w' hs => impl_searched.good (VA gO w.heap.size) w 62 #[.pointer (some ⟨gO, 0, none⟩)] stepA [] a0_0 a0_1 l0_2 A0_2 c0_2 (visA w gO _) HT.out HR.out hc0_2 HZ.out HC.out rest w' hs)
    generalize endL l0_2 a0_1 stepA [] = R at e1 e2 HSEA0
    generalize nodesR l0_2 a0_1 = V at e1 e2 h2
    rw [e1, e2] at HSEA0
    clear e1 e2 c
    by_cases o : V.over = true
    · rw [if_pos o] at h2
      injection h2 with q1 q2
      subst q1 q2
      rw [o, show codeL true = 3 from rfl] at HSEA0
      clear o
      go_enter Tryd.func31, Tryd.ntmps31
      go_wp2_with (first
        | ((with_reducible refine gate_dst (N := 1) rfl ?_); go_loud (refine box_event ?hg (N := 1) ?hd (cs := #[.int .i64 a0_0, .int .i64 a0_1, .slice A0_2 l0_2.length c0_2]) (t := 28) ?hr ?_; (case hd => rfl); (case hg => rfl); (case hr => first | (go_simp; done) | (go_simp; rfl)); intro gb hgb_ wb_ hcb_ hbb_; have HS_ := A0_ (Sp.boxed HS.out hgb_ hcb_ hbb_); clear HS; have HS := HS_; clear HS_; clear hgb_ hcb_ hbb_))
        | ((with_reducible refine gate_dst (N := 7) rfl ?_); go_loud (refine Kd.R_lit (Kd.tag (fun _ => 0) kL) _ 32 ?hg (N := 7) ?hd (xs := ([] : List (List Int × Nat))) (inner := []) (ok := fun _ => True) (okp := fun _ => True) ?hr ?hp (fun _ hk => hk) trivial (Below.refl _ _) (Nat.le_refl _) (by simp) ?_; (case hd => rfl); (case hg => rfl); (case hr => first | (go_simp; done) | (go_simp; rfl)); (case hp => exact (Reps.none _ _)); intro vl_ wl_ ho_ hb_ hg_ hn_; clear hg_ hn_; have HS_ := A0_ (Sp.made' HS.out hb_ ho_); clear HS; have HS := HS_; clear HS_; clear ho_ hb_; obtain ⟨Al, cl, ev_⟩ := Sp.slice HS.out (i := 0) rfl; subst ev_))
        | ((with_reducible refine gate_dst (N := 4) rfl ?_); go_loud (refine box_event ?hg (N := 4) ?hd (cs := #[.slice none 0 0]) (t := 22) ?hr ?_; (case hd => rfl); (case hg => rfl); (case hr => first | (go_simp; done) | (go_simp; rfl)); intro gO hgb_ wb_ hcb_ hbb_; have HS_ := A0_ (Sp.boxed HS.out hgb_ hcb_ hbb_); clear HS; have HS := HS_; clear HS_; clear hgb_ hcb_ hbb_; have ho0 := (blk_cell (Sp.blk HS.out (i := 0) rfl).1 0).trans rfl; have zo0 := blk_frozen (Sp.blk HS.out (i := 0) rfl).1 0))
        | ((with_reducible refine gate_store (t := 22) (p := 4) rfl ?_); go_loud (refine store_event rfl rfl rfl (w1 := wb_.setCell ⟨gO, 0, none⟩ (.slice Al 0 cl)) (by first | (go_simp; done) | (go_simp; rfl)) ?_; intro ws_ hw_; have HS_ := A0_ (Sp.set HS.out 0 rfl 0 (.slice Al 0 cl) (blk_put (cs' := #[.slice Al 0 cl]) (Sp.blk HS.out (i := 0) rfl).1 0 _ rfl)); rw [← hw_] at HS_; clear HS hw_; have HS := HS_; clear HS_; clear ho0 zo0; have hb0 := (blk_cell (Sp.blk HS.out (i := 2) rfl).1 0).trans rfl; have hb1 := (blk_cell (Sp.blk HS.out (i := 2) rfl).1 1).trans rfl; have hb2 := (blk_cell (Sp.blk HS.out (i := 2) rfl).1 2).trans rfl; have HSEA := A0_ (HSEA0.out gO); have HSV := A0_ (va_close (a := []) (A := Al) (c := cl) (Sp.ex_close (R := fun f => Res.row (Kd.tag f kL) 32 w.heap.size (.slice Al 0 cl) ([] : List (List Int)).zipIdx) (fun _ => 0) (Sp.swap HS.out) (i := 0) rfl))))
        | (go_at_call 44; go_loud (refine (HSEA.out _ _ HSV.out).mono ?_; rintro e wc_ ⟨g, v0, v3, rfl, hs_⟩; have HS_ := A0_ (hs_); clear HS; have HS := HS_; clear HS_; clear hs_ HSV hb0 hb1 hb2)))
      go_ret2
      exact ⟨_, rfl, Kd.S_nil kL 32 _ _ _, HS.out.below⟩
    · rw [if_neg o] at h2
      rw [Bool.eq_false_iff.mpr o, show codeL false = 0 from rfl] at HSEA0
      clear o
      obtain ⟨L, hL⟩ : ∃ L, L = (V.found.map sortL).take 201 := ⟨_, rfl⟩
      rw [← hL] at HSEA0
      by_cases z : 200 < V.found.length
      · rw [if_pos z] at h2
        injection h2 with q1 q2
        subst q1 q2
        have hll : L.length = 201 := by rw [hL, List.length_take, List.length_map]; omega
        have HLL := A0_ hll
        clear z hL hll
        go_enter Tryd.func31, Tryd.ntmps31
        go_wp2_with (first
          | ((with_reducible refine gate_dst (N := 1) rfl ?_); go_loud (refine box_event ?hg (N := 1) ?hd (cs := #[.int .i64 a0_0, .int .i64 a0_1, .slice A0_2 l0_2.length c0_2]) (t := 28) ?hr ?_; (case hd => rfl); (case hg => rfl); (case hr => first | (go_simp; done) | (go_simp; rfl)); intro gb hgb_ wb_ hcb_ hbb_; have HS_ := A0_ (Sp.boxed HS.out hgb_ hcb_ hbb_); clear HS; have HS := HS_; clear HS_; clear hgb_ hcb_ hbb_))
          | ((with_reducible refine gate_dst (N := 7) rfl ?_); go_loud (refine Kd.R_lit (Kd.tag (fun _ => 0) kL) _ 32 ?hg (N := 7) ?hd (xs := ([] : List (List Int × Nat))) (inner := []) (ok := fun _ => True) (okp := fun _ => True) ?hr ?hp (fun _ hk => hk) trivial (Below.refl _ _) (Nat.le_refl _) (by simp) ?_; (case hd => rfl); (case hg => rfl); (case hr => first | (go_simp; done) | (go_simp; rfl)); (case hp => exact (Reps.none _ _)); intro vl_ wl_ ho_ hb_ hg_ hn_; clear hg_ hn_; have HS_ := A0_ (Sp.made' HS.out hb_ ho_); clear HS; have HS := HS_; clear HS_; clear ho_ hb_; obtain ⟨Al, cl, ev_⟩ := Sp.slice HS.out (i := 0) rfl; subst ev_))
          | ((with_reducible refine gate_dst (N := 4) rfl ?_); go_loud (refine box_event ?hg (N := 4) ?hd (cs := #[.slice none 0 0]) (t := 22) ?hr ?_; (case hd => rfl); (case hg => rfl); (case hr => first | (go_simp; done) | (go_simp; rfl)); intro gO hgb_ wb_ hcb_ hbb_; have HS_ := A0_ (Sp.boxed HS.out hgb_ hcb_ hbb_); clear HS; have HS := HS_; clear HS_; clear hgb_ hcb_ hbb_; have ho0 := (blk_cell (Sp.blk HS.out (i := 0) rfl).1 0).trans rfl; have zo0 := blk_frozen (Sp.blk HS.out (i := 0) rfl).1 0))
          | ((with_reducible refine gate_store (t := 22) (p := 4) rfl ?_); go_loud (refine store_event rfl rfl rfl (w1 := wb_.setCell ⟨gO, 0, none⟩ (.slice Al 0 cl)) (by first | (go_simp; done) | (go_simp; rfl)) ?_; intro ws_ hw_; have HS_ := A0_ (Sp.set HS.out 0 rfl 0 (.slice Al 0 cl) (blk_put (cs' := #[.slice Al 0 cl]) (Sp.blk HS.out (i := 0) rfl).1 0 _ rfl)); rw [← hw_] at HS_; clear HS hw_; have HS := HS_; clear HS_; clear ho0 zo0; have hb0 := (blk_cell (Sp.blk HS.out (i := 2) rfl).1 0).trans rfl; have hb1 := (blk_cell (Sp.blk HS.out (i := 2) rfl).1 1).trans rfl; have hb2 := (blk_cell (Sp.blk HS.out (i := 2) rfl).1 2).trans rfl; have HSEA := A0_ (HSEA0.out gO); have HSV := A0_ (va_close (a := []) (A := Al) (c := cl) (Sp.ex_close (R := fun f => Res.row (Kd.tag f kL) 32 w.heap.size (.slice Al 0 cl) ([] : List (List Int)).zipIdx) (fun _ => 0) (Sp.swap HS.out) (i := 0) rfl))))
          | (go_at_call 44; go_loud (refine (HSEA.out _ _ HSV.out).mono ?_; rintro e wc_ ⟨g, v0, v3, rfl, hs_⟩; have HS_ := A0_ (hs_); clear HS; have HS := HS_; clear HS_; clear hs_ HSV hb0 hb1 hb2; obtain ⟨Ac, cc, hv_⟩ := va_open (Sp.swap HS.out); have HS_ := A0_ (hv_); clear HS; have HS := HS_; clear HS_; clear hv_; have ho0 := (blk_cell (Sp.blk HS.out (i := 1) rfl).1 0).trans rfl; rw [HLL.out] at ho0)))
        go_ret2
        exact ⟨_, rfl, Kd.S_nil kL 32 _ _ _, HS.out.below⟩
      · rw [if_neg z] at h2
        injection h2 with q1 q2
        subst q1 q2
        have hl1 : L = V.found.map sortL := by rw [hL]; exact List.take_of_length_le (by rw [List.length_map]; omega)
        rw [← hl1]
        have hll : L.length ≤ 200 := by rw [hl1, List.length_map]; omega
        have hlc : decide (200 < L.length) = false := decide_eq_false (by omega)
        have hlc1 : (200 < (L.length : Int)) = False := eq_false (by omega)
        clear z hL hl1 hll
        go_enter Tryd.func31, Tryd.ntmps31
        go_wp2_with (first
          | ((with_reducible refine gate_dst (N := 1) rfl ?_); go_loud (refine box_event ?hg (N := 1) ?hd (cs := #[.int .i64 a0_0, .int .i64 a0_1, .slice A0_2 l0_2.length c0_2]) (t := 28) ?hr ?_; (case hd => rfl); (case hg => rfl); (case hr => first | (go_simp; done) | (go_simp; rfl)); intro gb hgb_ wb_ hcb_ hbb_; have HS_ := A0_ (Sp.boxed HS.out hgb_ hcb_ hbb_); clear HS; have HS := HS_; clear HS_; clear hgb_ hcb_ hbb_))
          | ((with_reducible refine gate_dst (N := 7) rfl ?_); go_loud (refine Kd.R_lit (Kd.tag (fun _ => 0) kL) _ 32 ?hg (N := 7) ?hd (xs := ([] : List (List Int × Nat))) (inner := []) (ok := fun _ => True) (okp := fun _ => True) ?hr ?hp (fun _ hk => hk) trivial (Below.refl _ _) (Nat.le_refl _) (by simp) ?_; (case hd => rfl); (case hg => rfl); (case hr => first | (go_simp; done) | (go_simp; rfl)); (case hp => exact (Reps.none _ _)); intro vl_ wl_ ho_ hb_ hg_ hn_; clear hg_ hn_; have HS_ := A0_ (Sp.made' HS.out hb_ ho_); clear HS; have HS := HS_; clear HS_; clear ho_ hb_; obtain ⟨Al, cl, ev_⟩ := Sp.slice HS.out (i := 0) rfl; subst ev_))
          | ((with_reducible refine gate_dst (N := 4) rfl ?_); go_loud (refine box_event ?hg (N := 4) ?hd (cs := #[.slice none 0 0]) (t := 22) ?hr ?_; (case hd => rfl); (case hg => rfl); (case hr => first | (go_simp; done) | (go_simp; rfl)); intro gO hgb_ wb_ hcb_ hbb_; have HS_ := A0_ (Sp.boxed HS.out hgb_ hcb_ hbb_); clear HS; have HS := HS_; clear HS_; clear hgb_ hcb_ hbb_; have ho0 := (blk_cell (Sp.blk HS.out (i := 0) rfl).1 0).trans rfl; have zo0 := blk_frozen (Sp.blk HS.out (i := 0) rfl).1 0))
          | ((with_reducible refine gate_store (t := 22) (p := 4) rfl ?_); go_loud (refine store_event rfl rfl rfl (w1 := wb_.setCell ⟨gO, 0, none⟩ (.slice Al 0 cl)) (by first | (go_simp; done) | (go_simp; rfl)) ?_; intro ws_ hw_; have HS_ := A0_ (Sp.set HS.out 0 rfl 0 (.slice Al 0 cl) (blk_put (cs' := #[.slice Al 0 cl]) (Sp.blk HS.out (i := 0) rfl).1 0 _ rfl)); rw [← hw_] at HS_; clear HS hw_; have HS := HS_; clear HS_; clear ho0 zo0; have hb0 := (blk_cell (Sp.blk HS.out (i := 2) rfl).1 0).trans rfl; have hb1 := (blk_cell (Sp.blk HS.out (i := 2) rfl).1 1).trans rfl; have hb2 := (blk_cell (Sp.blk HS.out (i := 2) rfl).1 2).trans rfl; have HSEA := A0_ (HSEA0.out gO); have HSV := A0_ (va_close (a := []) (A := Al) (c := cl) (Sp.ex_close (R := fun f => Res.row (Kd.tag f kL) 32 w.heap.size (.slice Al 0 cl) ([] : List (List Int)).zipIdx) (fun _ => 0) (Sp.swap HS.out) (i := 0) rfl))))
          | (go_at_call 44; go_loud (refine (HSEA.out _ _ HSV.out).mono ?_; rintro e wc_ ⟨g, v0, v3, rfl, hs_⟩; have HS_ := A0_ (hs_); clear HS; have HS := HS_; clear HS_; clear hs_ HSV hb0 hb1 hb2; obtain ⟨Ac, cc, hv_⟩ := va_open (Sp.swap HS.out); have HS_ := A0_ (hv_); clear HS; have HS := HS_; clear HS_; clear hv_; have ho0 := (blk_cell (Sp.blk HS.out (i := 1) rfl).1 0).trans rfl)))
        go_ret2
        obtain ⟨fp_, hs_⟩ := Sp.getS HS.out (i := 0) rfl
        exact ⟨_, rfl, Kd.S_mono hs_ (fun _ _ => trivial), HS.out.below⟩
  · rw [if_neg c] at h2
    injection h2 with q1 q2
    subst q1 q2
    have HSB := A0_ (fun gO w' hb => impl_searched.bad w 62 #[.pointer (some ⟨gO, 0, none⟩)] a0_0 a0_1 l0_2 A0_2 c0_2 HR.out hc0_2 HZ.out (Bool.eq_false_iff.mpr c) w' hb)
    clear c
    go_enter Tryd.func31, Tryd.ntmps31
    go_wp2_with (first
      | ((with_reducible refine gate_dst (N := 1) rfl ?_); go_loud (refine box_event ?hg (N := 1) ?hd (cs := #[.int .i64 a0_0, .int .i64 a0_1, .slice A0_2 l0_2.length c0_2]) (t := 28) ?hr ?_; (case hd => rfl); (case hg => rfl); (case hr => first | (go_simp; done) | (go_simp; rfl)); intro gb hgb_ wb_ hcb_ hbb_; have HS_ := A0_ (Sp.boxed HS.out hgb_ hcb_ hbb_); clear HS; have HS := HS_; clear HS_; clear hgb_ hcb_ hbb_))
      | ((with_reducible refine gate_dst (N := 7) rfl ?_); go_loud (refine Kd.R_lit (Kd.tag (fun _ => 0) kL) _ 32 ?hg (N := 7) ?hd (xs := ([] : List (List Int × Nat))) (inner := []) (ok := fun _ => True) (okp := fun _ => True) ?hr ?hp (fun _ hk => hk) trivial (Below.refl _ _) (Nat.le_refl _) (by simp) ?_; (case hd => rfl); (case hg => rfl); (case hr => first | (go_simp; done) | (go_simp; rfl)); (case hp => exact (Reps.none _ _)); intro vl_ wl_ ho_ hb_ hg_ hn_; clear hg_ hn_; have HS_ := A0_ (Sp.made' HS.out hb_ ho_); clear HS; have HS := HS_; clear HS_; clear ho_ hb_; obtain ⟨Al, cl, ev_⟩ := Sp.slice HS.out (i := 0) rfl; subst ev_))
      | ((with_reducible refine gate_dst (N := 4) rfl ?_); go_loud (refine box_event ?hg (N := 4) ?hd (cs := #[.slice none 0 0]) (t := 22) ?hr ?_; (case hd => rfl); (case hg => rfl); (case hr => first | (go_simp; done) | (go_simp; rfl)); intro gO hgb_ wb_ hcb_ hbb_; have HS_ := A0_ (Sp.boxed HS.out hgb_ hcb_ hbb_); clear HS; have HS := HS_; clear HS_; clear hgb_ hcb_ hbb_; have ho0 := (blk_cell (Sp.blk HS.out (i := 0) rfl).1 0).trans rfl; have zo0 := blk_frozen (Sp.blk HS.out (i := 0) rfl).1 0))
      | ((with_reducible refine gate_store (t := 22) (p := 4) rfl ?_); go_loud (refine store_event rfl rfl rfl (w1 := wb_.setCell ⟨gO, 0, none⟩ (.slice Al 0 cl)) (by first | (go_simp; done) | (go_simp; rfl)) ?_; intro ws_ hw_; have HS_ := A0_ (Sp.set HS.out 0 rfl 0 (.slice Al 0 cl) (blk_put (cs' := #[.slice Al 0 cl]) (Sp.blk HS.out (i := 0) rfl).1 0 _ rfl)); rw [← hw_] at HS_; clear HS hw_; have HS := HS_; clear HS_; clear ho0 zo0; have hb0 := (blk_cell (Sp.blk HS.out (i := 2) rfl).1 0).trans rfl; have hb1 := (blk_cell (Sp.blk HS.out (i := 2) rfl).1 1).trans rfl; have hb2 := (blk_cell (Sp.blk HS.out (i := 2) rfl).1 2).trans rfl))
      | (go_at_call 44; go_loud (refine (HSB.out gO _ HS.out.below).mono ?_; rintro e wc_ ⟨rfl, hb_⟩; have HS_ := A0_ (Sp.far HS.out hb_); clear HS; have HS := HS_; clear HS_; clear hb_ hb0 hb1 hb2)))
    go_ret2
    exact ⟨_, rfl, Kd.S_nil kL 32 _ _ _, HS.out.below⟩
end Go.Proofs.YtoglcgnbkibpgaaDoor.A

/- The reference's AllCovers, walked. -/
namespace Go.Proofs.YtoglcgnbkibpgaaDoor.A
open Go.RowKit Go.Proofs.YtoglcgnbkibpgaaDoorW.PrintWords Go.Proofs.YtoglcgnbkibpgaaDoorW.PrintLast Go.Proofs.YtoglcgnbkibpgaaDoorW.PrintMore Go.Proofs.YtoglcgnbkibpgaaDoorW.Cov Go.Proofs.YtoglcgnbkibpgaaDoorW.Tree
set_option linter.unusedVariables false
set_option linter.unusedSimpArgs false
def spec_AllCovers.f (k : Nat) (a0_0 a0_1 : Int) (l0_2 : List (List Int)) : Option (List (List Int) × Int) := if sizesOk l0_2 then some (allOut a0_0 a0_1 l0_2) else none
set_option maxHeartbeats 2000000 in
set_option maxRecDepth 100000 in
theorem spec_AllCovers.calls (k : Nat) (a0_0 a0_1 : Int) (A0_2 : Option Addr) (c0_2 : Nat) (l0_2 : List (List Int)) (r1 : List (List Int)) (r2 : Int) (w : World) (hr0_2 : Kd.C (Kd.slice 2 (Kd.int .i64)) w A0_2 l0_2.length l0_2) (hc0_2 : l0_2.length ≤ c0_2) (h : spec_AllCovers.f k a0_0 a0_1 l0_2 = some (r1, r2)) :
    Calls Tryd.prog 30 #[.agg #[.int .i64 a0_0, .int .i64 a0_1, .slice A0_2 l0_2.length c0_2]] w fun e w' => ∃ v1_ : Value, e = .returned (.tuple #[v1_, .int .i64 r2]) ∧ Kd.S kL 32 w' w.heap.size (fun _ => True) v1_ r1 ∧ Below w.heap.size w w' := by
  unfold spec_AllCovers.f at h
  split at h
  case isFalse => cases h
  rename_i hz
  obtain ⟨K, hK⟩ := (isCover_ev a0_0 a0_1 l0_2 hz.1 hz.2).rounds
  have h2 := Option.some.inj h
  clear h
  unfold allOut at h2
  have HR := A0_ hr0_2
  have HK := A0_ hK
  have HLN := A0_ hz.1
  have HS := A0_ (Sp.start w)
  clear hr0_2 hK
  by_cases c : coverOk a0_0 a0_1 l0_2 = true
  · rw [if_pos c] at h2
    rw [c] at HK
    have HCO := A0_ (coverOk_spec c)
    have HFD := A0_ (found_nodup (coverOk_spec c) 20000 20001)
    change Aside0 (∀ x ∈ (nodesR l0_2 a0_1).found, _) at HFD
    have h3 : ((nodesR l0_2 a0_1).found.length : Int) ≤ 20001 := by
      have g := all_rel (leafC l0_2 a0_1.toNat) (kidsC l0_2 a0_1.toNat) 20000 stepN () (fun _ _ => rfl) (by decide) a0_1.toNat []
      have hk := g.2.2.1
      have h1 := hk.2.1
      have h2 := hk.2.2.1
      rw [show (20000 + 1 : Int) = 20001 from by decide] at h1 h2
      unfold nodesR runV
      omega
    have HFL := A0_ h3
    clear h3
    by_cases o : (nodesR l0_2 a0_1).over = true
    · rw [if_pos o] at h2
      injection h2 with q1 q2
      subst q1 q2
      have HO := A0_ o
      clear o c hz
      go_enter Tryd.func30, Tryd.ntmps30
      go_wp2_with (first
        | ((with_reducible refine gate_dst (N := 1) rfl ?_); go_loud (refine box_event ?hg (N := 1) ?hd (cs := #[.int .i64 a0_0, .int .i64 a0_1, .slice A0_2 l0_2.length c0_2]) (t := 28) ?hr ?_; (case hd => rfl); (case hg => rfl); (case hr => first | (go_simp; done) | (go_simp; rfl)); intro gb hgb_ wb_ hcb_ hbb_; have HS_ := A0_ (Sp.boxed HS.out hgb_ hcb_ hbb_); clear HS; have HS := HS_; clear HS_; clear hgb_ hcb_ hbb_; have hb0 := (blk_cell (Sp.blk HS.out (i := 0) rfl).1 0).trans rfl; have hb1 := (blk_cell (Sp.blk HS.out (i := 0) rfl).1 1).trans rfl; have hb2 := (blk_cell (Sp.blk HS.out (i := 0) rfl).1 2).trans rfl))
        | (go_at_call 42; go_loud (refine (spec_l14All.over K a0_0 a0_1 l0_2 HCO.out _ A0_2 c0_2 (Kd.C_below HR.out HS.out.below) hc0_2 HK.out HO.out).mono ?_; rintro e wc_ ⟨rfl, hb_⟩; have HS_ := A0_ (Sp.far HS.out hb_); clear HS; have HS := HS_; clear HS_; clear hb_ hb0 hb1 hb2)))
      go_ret2
      exact ⟨_, rfl, Kd.S_nil kL 32 _ _ _, HS.out.below⟩
    · rw [if_neg o] at h2
      have HO := A0_ (Bool.eq_false_iff.mpr o)
      have HALL := A0_ (fun (w1 : World) hR => spec_l14All.good K a0_0 a0_1 l0_2 HCO.out w1 A0_2 c0_2 hR hc0_2 HK.out HO.out)
      generalize nodesR l0_2 a0_1 = V at h2 HFD HFL HALL
      obtain ⟨st, F, ov⟩ := V
      dsimp only at HFD HFL HALL h2 ⊢
      by_cases z : 200 < F.length
      · rw [if_pos z] at h2
        injection h2 with q1 q2
        subst q1 q2
        have hz0 : decide (200 < F.length) = true := decide_eq_true z
        have hz1 : (200 < (F.length : Int)) = True := eq_true (by omega)
        clear o c hz z
        go_enter Tryd.func30, Tryd.ntmps30
        go_wp2_with (first
          | ((with_reducible refine gate_dst (N := 1) rfl ?_); go_loud (refine box_event ?hg (N := 1) ?hd (cs := #[.int .i64 a0_0, .int .i64 a0_1, .slice A0_2 l0_2.length c0_2]) (t := 28) ?hr ?_; (case hd => rfl); (case hg => rfl); (case hr => first | (go_simp; done) | (go_simp; rfl)); intro gb hgb_ wb_ hcb_ hbb_; have HS_ := A0_ (Sp.boxed HS.out hgb_ hcb_ hbb_); clear HS; have HS := HS_; clear HS_; clear hgb_ hcb_ hbb_; have hb0 := (blk_cell (Sp.blk HS.out (i := 0) rfl).1 0).trans rfl; have hb1 := (blk_cell (Sp.blk HS.out (i := 0) rfl).1 1).trans rfl; have hb2 := (blk_cell (Sp.blk HS.out (i := 0) rfl).1 2).trans rfl))
          | (go_at_call 42; refine (HALL.out _ (Kd.C_below HR.out HS.out.below)).mono ?_; rintro e wc_ ⟨g, A4, c4, rfl, hs_⟩; have HS2 := A0_ hs_; have HB := A0_ (Sp.far HS.out hs_.below); clear HS hb0 hb1 hb2 hs_; have hg5 := (blk_cell (Sp.blk HS2.out (i := 0) rfl).1 5).trans rfl))
        go_ret2
        exact ⟨_, rfl, Kd.S_nil kL 32 _ _ _, HB.out.below⟩
      · rw [if_neg z] at h2
        injection h2 with q1 q2
        subst q1 q2
        have hz0 : decide (200 < F.length) = false := decide_eq_false z
        have hz1 : (200 < (F.length : Int)) = False := eq_false (by omega)
        have HF2 := A0_ (show F.length ≤ 200 by omega)
        clear o c hz z
        go_enter Tryd.func30, Tryd.ntmps30
        go_wp2_with (first
          | ((with_reducible refine gate_dst (N := 1) rfl ?_); go_loud (refine box_event ?hg (N := 1) ?hd (cs := #[.int .i64 a0_0, .int .i64 a0_1, .slice A0_2 l0_2.length c0_2]) (t := 28) ?hr ?_; (case hd => rfl); (case hg => rfl); (case hr => first | (go_simp; done) | (go_simp; rfl)); intro gb hgb_ wb_ hcb_ hbb_; have HS_ := A0_ (Sp.boxed HS.out hgb_ hcb_ hbb_); clear HS; have HS := HS_; clear HS_; clear hgb_ hcb_ hbb_; have hb0 := (blk_cell (Sp.blk HS.out (i := 0) rfl).1 0).trans rfl; have hb1 := (blk_cell (Sp.blk HS.out (i := 0) rfl).1 1).trans rfl; have hb2 := (blk_cell (Sp.blk HS.out (i := 0) rfl).1 2).trans rfl))
          | (go_at_call 42; refine (HALL.out _ (Kd.C_below HR.out HS.out.below)).mono ?_; rintro e wc_ ⟨g, A4, c4, rfl, hs_⟩; have HS_ := A0_ (Sp.app HS.out hs_); clear HS hb0 hb1 hb2 hs_; have HS := HS_; clear HS_; have hg5 := (blk_cell (Sp.blk HS.out (i := 0) rfl).1 5).trans rfl)
          | ((with_reducible refine gate_dst (N := 22) rfl ?_); go_loud (refine Kd.R_lit (Kd.tag (fun _ => 0) kL) _ 32 ?hg (N := 22) ?hd (xs := ([] : List (List Int × Nat))) (inner := []) (ok := fun _ => True) (okp := fun _ => True) ?hr ?hp (fun _ hk => hk) trivial (Below.refl _ _) (Nat.le_refl _) (by simp) ?_; (case hd => rfl); (case hg => rfl); (case hr => first | (go_simp; done) | (go_simp; rfl)); (case hp => exact (Reps.none _ _)); intro vl_ wl_ ho_ hb_ hg_ hn_; clear hg_ hn_; have HS_ := A0_ (Sp.made' HS.out hb_ ho_); clear HS; have HS := HS_; clear HS_; clear ho_ hb_; obtain ⟨Ao, co, ev_⟩ := Sp.slice HS.out (i := 0) rfl; subst ev_; clear hg5)))
        have HS1 := A0_ (Sp.ex_close (R := fun f => Res.row (Kd.tag f kL) 32 w.heap.size (.slice Ao 0 co) ([] : List (List Int)).zipIdx) (fun _ => 0) HS.out (i := 0) rfl)
        obtain ⟨bs, HS_⟩ : ∃ bs, Aside0 (Sp w ([Res.rowS kL 32 w.heap.size (.slice Ao ((F.take 0).map sortL).length co) ((F.take 0).map sortL), Res.blk g #[.int .i64 a0_0, .int .i64 a0_1, .slice A0_2 l0_2.length c0_2, .int .i64 20000, .int .i64 st, .slice A4 F.length c4, .int .i64 20001, .bool ov] 55, Res.row kL 32 bs (.slice A4 F.length c4) F, Res.blk gb #[.int .i64 a0_0, .int .i64 a0_1, .slice A0_2 l0_2.length c0_2] 28]) _) := ⟨_, A0_ HS1.out⟩
        clear HS HS1 hz0 hz1
        have HS := HS_
        clear HS_
        go_loopg [6, 7] (F.length + 1) (fun kq v6 v7 w' => ∃ (i : Nat) (Ao : Option Addr) (co : Nat), v7 = .int .i64 (i : Int) ∧ v6 = .slice Ao ((F.take i).map sortL).length co ∧ Aside0 (i ≤ F.length ∧ kq + i = F.length + 1) ∧ Aside0 (Sp w ([Res.rowS kL 32 w.heap.size (.slice Ao ((F.take i).map sortL).length co) ((F.take i).map sortL), Res.blk g #[.int .i64 a0_0, .int .i64 a0_1, .slice A0_2 l0_2.length c0_2, .int .i64 20000, .int .i64 st, .slice A4 F.length c4, .int .i64 20001, .bool ov] 55, Res.row kL 32 bs (.slice A4 F.length c4) F, Res.blk gb #[.int .i64 a0_0, .int .i64 a0_1, .slice A0_2 l0_2.length c0_2] 28]) w'))
        case atStart => exact ⟨0, Ao, co, rfl, rfl, ⟨by omega, by omega⟩, HS⟩
        case round =>
          clear HS
          obtain ⟨i, Ao, co, rfl, rfl, HX, HS⟩ := hrel
          obtain ⟨k1, rfl⟩ : ∃ k1, gk = k1 + 1 := ⟨gk - 1, by have := HX.out; omega⟩
          have HW := A0_ (wrap_succ i (by have := HF2.out; have := HX.out; omega))
          have hg5 := (blk_cell (Sp.blk HS.out (i := 1) rfl).1 5).trans rfl
          by_cases ci : i < F.length
          · have ci0 : decide (i < F.length) = true := decide_eq_true ci
            have q0 : (0 ≤ (i : Int)) = True := eq_true (by omega)
            have q1 : ((i : Int) < (F.length : Int)) = True := eq_true (by omega)
            obtain ⟨ad2, Ar, cr, e2, hx0, hx1, hx2⟩ := at_L1 (Sp.reads HS.out (i := 2) rfl).2.2 (i : Int) (by omega) (by omega)
            cases e2
            have er : rd_L1 F (i : Int) = F[i] := by unfold rd_L1; simp [ci]
            rw [er] at hx0 hx1 hx2
            rw [Int.toNat_natCast] at hx0
            have HX2 := A0_ hx2
            have HX1 := A0_ hx1
            have HSL := A0_ (show F[i].length ≤ 1048576 by have := (HFD.out _ (List.getElem_mem ci)).2.1; omega)
            have HTK := A0_ (show (F.take (i + 1)).map sortL = (F.take i).map sortL ++ [sortL F[i]] by rw [List.take_succ_eq_append_getElem ci, List.map_append]; rfl)
            have HLM := A0_ (show ((F.take i).map sortL).length ≤ 200 by rw [List.length_map, List.length_take]; have := HF2.out; omega)
            generalize F[i] = s at *
            generalize (F.take i).map sortL = M at *
            clear hx2 hx1 ci er
            go_wp2_with (first
              | (go_at_call 61; refine (spec_l12Sorted.calls' s Ar cr _ HX2.out HX1.out HSL.out).mono ?_; rintro e ws_ ⟨v_, rfl, hr_, hb_⟩; have HS_ := A0_ (Sp.made' HS.out hb_ hr_); clear HS; have HS := HS_; clear HS_; clear hr_ hb_ hx0 hg5; obtain ⟨As, cs, ev_⟩ := Sp.slice HS.out (i := 0) rfl; subst ev_)
              | ((with_reducible refine gate_builtin (b := .append) (xs := #[.tmp 32, .tmp 41]) rfl ?_); go_loud (at_builtin; obtain ⟨fp_, gp_, hg_, hs_, hd_, hb_, hc_⟩ := Sp.joinS HS.out; refine Kd.S_append kL (w0 := w) w.heap.size rfl (.tmp 32) (.tmp 41) 22 32 (.slice none 0 0) 24 rfl Tryd.underlying22 info32 rfl (by decide) (by omega) (.slice Ao M.length co) (M) (sortL s) [.slice As (sortL s).length cs] (fun k => fp_ k ∨ gp_ k ∨ _ ≤ k) gp_ rfl rfl ⟨_, rfl, hg_⟩ (fun k hk => ⟨Or.inr (Or.inl hk), fun e_ => hd_ k hk ((Kd.S_R hs_).1 k e_.symm)⟩) (fun _ h => Or.inr (Or.inr h)) (Kd.S_mono hs_ (fun k hk => ⟨Or.inl hk, fun hg => hd_ k hg hk⟩)) HS.out.below HS.out.below.size ?aL ?_; (case aL => have := HLM.out; omega); intro va_ wa_ ho hb hg hat; have HS_ := A0_ (hc_ _ _ _ ho hg); clear HS; have HS := HS_; clear HS_; clear ho hb hg hat hc_ hb_ hd_ hs_ hg_ fp_ gp_; obtain ⟨Ao2, co2, ev_⟩ := Sp.sliceS HS.out (i := 0) rfl; subst ev_; rw [← HTK.out] at HS)))
            go_roundg k1
            case measure => omega
            case rel =>
              rw [HW.out]
              exact ⟨i + 1, Ao2, co2, rfl, by rw [HTK.out, List.length_append]; rfl, ⟨by have := of_decide_eq_true ci0; omega, by have := HX.out; omega⟩, HS⟩
          · have ci0 : decide (i < F.length) = false := decide_eq_false ci
            have hi : i = F.length := by have := HX.out; omega
            have HI := A0_ (show (F.take i).map sortL = F.map sortL by rw [hi, List.take_length])
            clear ci hi
            go_wp2
            go_ret2
            obtain ⟨fp_, hs_⟩ := Sp.getS HS.out (i := 0) rfl
            refine ⟨_, rfl, ?_, HS.out.below⟩
            rw [← HI.out]
            exact Kd.S_mono hs_ (fun _ _ => trivial)
  · rw [if_neg c] at h2
    injection h2 with q1 q2
    subst q1 q2
    rw [Bool.eq_false_iff.mpr c] at HK
    clear c hz
    go_enter Tryd.func30, Tryd.ntmps30
    go_wp2_with (first
      | ((with_reducible refine gate_dst (N := 1) rfl ?_); go_loud (refine box_event ?hg (N := 1) ?hd (cs := #[.int .i64 a0_0, .int .i64 a0_1, .slice A0_2 l0_2.length c0_2]) (t := 28) ?hr ?_; (case hd => rfl); (case hg => rfl); (case hr => first | (go_simp; done) | (go_simp; rfl)); intro gb hgb_ wb_ hcb_ hbb_; have HS_ := A0_ (Sp.boxed HS.out hgb_ hcb_ hbb_); clear HS; have HS := HS_; clear HS_; clear hgb_ hcb_ hbb_; have hb0 := (blk_cell (Sp.blk HS.out (i := 0) rfl).1 0).trans rfl; have hb1 := (blk_cell (Sp.blk HS.out (i := 0) rfl).1 1).trans rfl; have hb2 := (blk_cell (Sp.blk HS.out (i := 0) rfl).1 2).trans rfl))
      | (go_at_call 42; go_loud (refine (spec_l14All.bad K a0_0 a0_1 l0_2 _ A0_2 c0_2 (Kd.C_below HR.out HS.out.below) hc0_2 HK.out).mono ?_; rintro e wc_ ⟨rfl, hb_⟩; have HS_ := A0_ (Sp.far HS.out hb_); clear HS; have HS := HS_; clear HS_; clear hb_ hb0 hb1 hb2)))
    go_ret2
    exact ⟨_, rfl, Kd.S_nil kL 32 _ _ _, HS.out.below⟩
end Go.Proofs.YtoglcgnbkibpgaaDoor.A

/- Arguments of a law opened as plain data, kind by kind: what can be read at a type is a value of its kind. -/
namespace Go.Proofs.YtoglcgnbkibpgaaDoor.Opn
open Go.RowKit Go.Proofs.YtoglcgnbkibpgaaDoorW.PrintWords
/-- What reads at type t is a value of kind d, of which ok holds. -/
def Op {α : Type} (P : Program) (t : TypeId) (d : Kd α) (ok : α → Prop) : Prop :=
  ∀ (H : Type) (enc : TypeId × Value → H) (W : World) (fuel : Nat) (cs : List Value) (x : DataW H × List MemPlace),
    DataW.trod enc P W 0 (fun _ => true) true fuel t cs = some x → ∃ a : α, d.K W a cs ∧ ok a
/-- The same of a struct's fields from one on, which begins at cell o. -/
def OpF {α : Type} (P : Program) (o : Nat) (fs : List Field) (d : Kd α) (ok : α → Prop) : Prop :=
  ∀ (H : Type) (enc : TypeId × Value → H) (W : World) (fuel : Nat) (cs : List Value) (xs : List (DataW H × List MemPlace)), cs.length = o + d.sz →
    xs.length = fs.length → (∀ (i : Nat) (f : Field), fs[i]? = some f → DataW.trod enc P W 0 (fun _ => true) true fuel f.type ((cs.drop f.offset).take (P.cellsOf f.type)) = xs[i]?) → ∃ a : α, d.K W a (cs.drop o) ∧ ok a
def okInt (k : IntKind) (n : Int) : Prop := (Lit.int k n).wf = true
def okAll {α : Type} (ok : α → Prop) (l : List α) : Prop := l.length ≤ maxLen ∧ ∀ x ∈ l, ok x
def okTwo {α β : Type} (ok : α → Prop) (ok' : β → Prop) (x : α × β) : Prop := ok x.1 ∧ ok' x.2
theorem Op.int {P : Program} {t : TypeId} {k : IntKind} (ht : P.underlying t = some (.int k)) : Op P t (Kd.int k) (okInt k) := by
  intro H enc W fuel cs x h
  obtain ⟨n, rfl, _, hw⟩ := DataW.trod_int ht h
  exact ⟨n, rfl, hw⟩
theorem Op.bool {P : Program} {t : TypeId} (ht : P.underlying t = some .bool) : Op P t Kd.bool (fun _ => True) := by
  intro H enc W fuel cs x h
  obtain ⟨b, rfl, _⟩ := DataW.trod_bool ht h
  exact ⟨b, rfl, trivial⟩
theorem Op.iso {α β : Type} {P : Program} {t : TypeId} {d : Kd α} {ok : α → Prop} (h : Op P t d ok) (f : β → α) (g : α → β) (hfg : ∀ a, f (g a) = a) : Op P t (Kd.iso d f) (fun b => ok (f b)) := by
  intro H enc W fuel cs x hx
  obtain ⟨a, ha, hok⟩ := h H enc W fuel cs x hx
  refine ⟨g a, ?_, ?_⟩
  · show d.K W (f (g a)) cs
    rw [hfg]
    exact ha
  · show ok (f (g a))
    rw [hfg]
    exact hok
theorem list_of_lt {α : Type} {p : Nat → α → Prop} : ∀ n, (∀ i, i < n → ∃ a, p i a) → ∃ l : List α, l.length = n ∧ ∀ i a, l[i]? = some a → p i a
  | 0, _ => ⟨[], rfl, fun i a h => by simp at h⟩
  | n + 1, h => by
    obtain ⟨l, hl, hp⟩ := list_of_lt n (fun i hi => h i (by omega))
    obtain ⟨a, ha⟩ := h n (by omega)
    refine ⟨l ++ [a], by simp [hl], fun i b hb => ?_⟩
    by_cases hi : i < l.length
    · rw [List.getElem?_append_left hi] at hb
      exact hp i b hb
    · have hlt : i < (l ++ [a]).length := (List.getElem?_eq_some_iff.1 hb).1
      simp at hlt
      have : i = l.length := by omega
      subst this
      have hab : a = b := by simpa using hb
      subst hab
      rw [hl]
      exact ha
theorem Op.slice {α : Type} {P : Program} {t e : TypeId} {d : Kd α} {ok : α → Prop} (ht : P.underlying t = some (.slice e)) (hc : P.cellsOf e = d.sz) (h : Op P e d ok) :
    Op P t (Kd.slice e d) (okAll ok) := by
  intro H enc W fuel cs x hx
  rcases Deep.open_slice ht hx with ⟨rfl, _⟩ | ⟨a, len, cap, m, n, D, Pl, rfl, hb, hl, hm, hmm, _, hel⟩
  · exact ⟨[], ⟨none, 0, rfl, Nat.le_refl _, rfl, by simp, fun h => absurd h (by simp)⟩, by simp [okAll]⟩
  · rw [if_pos rfl] at hmm
    subst hmm
    obtain ⟨l, hlen, hl2⟩ := list_of_lt (p := fun i (y : α) => (∃ c, c.length = d.sz ∧ d.K W y c ∧ ∀ j u, c[j]? = some u → W.cell? (a.add (i * d.sz + j)) = some u) ∧ ok y) len (fun i hi => by
      obtain ⟨cs', h1, h2⟩ := hel i (by omega)
      obtain ⟨y, hy, hok⟩ := h H enc W n cs' _ h2
      obtain ⟨_, h3, h4⟩ := World.cells?_some h1
      refine ⟨y, ⟨cs', d.K_len hy, hy, fun j u hu => ?_⟩, hok⟩
      have hj : j < P.cellsOf e := by rw [← h3]; exact (List.getElem?_eq_some_iff.1 hu).1
      have h5 := h4 j hj
      rw [← hu, ← h5, hc, Addr.add_add])
    unfold maxLen at hm
    refine ⟨l, ⟨some a, m, by rw [hlen], by omega, rfl, by omega, fun _ => ⟨a, rfl, fun j p hj => (hl2 j p hj).1⟩⟩, by unfold maxLen; omega, fun y hy => ?_⟩
    obtain ⟨i, hi, rfl⟩ := List.getElem_of_mem hy
    exact (hl2 i _ (List.getElem?_eq_getElem hi)).2
theorem OpF.one {α : Type} {P : Program} {o : Nat} {f : Field} {d : Kd α} {ok : α → Prop} (ho : f.offset = o) (hc : P.cellsOf f.type = d.sz) (h : Op P f.type d ok) : OpF P o [f] d ok := by
  intro H enc W fuel cs xs hl hn hx
  match xs, hn with
  | [y], _ =>
  have hy := hx 0 f rfl
  simp only [List.getElem?_cons_zero] at hy
  rw [ho, hc, List.take_of_length_le (by simp; omega)] at hy
  exact h H enc W fuel _ _ hy
theorem OpF.cons {α β : Type} {P : Program} {o : Nat} {f : Field} {fs : List Field} {d : Kd α} {d' : Kd β} {ok : α → Prop} {ok' : β → Prop} (ho : f.offset = o) (hc : P.cellsOf f.type = d.sz) (h : Op P f.type d ok)
    (hr : OpF P (o + d.sz) fs d' ok') : OpF P o (f :: fs) (Kd.pair d d') (okTwo ok ok') := by
  intro H enc W fuel cs xs hl hn hx
  match xs, hn with
  | y :: ys, hn =>
  have hy := hx 0 f rfl
  have hys : ∀ (i : Nat) (f : Field), fs[i]? = some f → DataW.trod enc P W 0 (fun _ => true) true fuel f.type ((cs.drop f.offset).take (P.cellsOf f.type)) = ys[i]? := fun i g hg => by simpa using hx (i + 1) g (by simpa using hg)
  simp only [List.getElem?_cons_zero] at hy
  rw [ho, hc] at hy
  obtain ⟨a, ha, hok⟩ := h H enc W fuel _ _ hy
  obtain ⟨b, hb, hok'⟩ := hr H enc W fuel cs ys (by rw [hl]; show o + (d.sz + d'.sz) = _; omega) (by simpa using hn) hys
  refine ⟨(a, b), ⟨_, _, ?_, ha, hb⟩, hok, hok'⟩
  rw [← List.drop_drop, List.take_append_drop]
theorem Op.struct {α : Type} {P : Program} {t : TypeId} {fs : Array Field} {d : Kd α} {ok : α → Prop} (ht : P.underlying t = some (.struct fs)) (hc : P.cellsOf t = d.sz) (h : OpF P 0 fs.toList d ok) : Op P t d ok := by
  intro H enc W fuel cs x hx
  obtain ⟨xs, n, _, _, hl, hn, hxs⟩ := DataW.trod_struct ht hx
  obtain ⟨a, ha, hok⟩ := h H enc W n cs xs (by omega) (by simpa using hn) (fun i f hf => hxs i f (by simpa using hf))
  exact ⟨a, by simpa using ha, hok⟩
end Go.Proofs.YtoglcgnbkibpgaaDoor.Opn

namespace Go.Proofs.YtoglcgnbkibpgaaDoor.A
open Go.RowKit Go.Proofs.YtoglcgnbkibpgaaDoorW.PrintWords Go.Proofs.YtoglcgnbkibpgaaDoorW.PrintLast Go.Proofs.YtoglcgnbkibpgaaDoorW.PrintMore
attribute [local go_sem] max2_int min2_int max_two min_two max_three min_three max_four min_four   -- for this text's walks alone
set_option linter.unusedVariables false
set_option linter.unusedSimpArgs false
def laws_szInt64S.f (l0 : List Int) (a1 : Int) : Option (Int) := if (wrap64 (a1 - (l0.length : Int))) < 0 then (some (-1)) else (some (wrap64 (a1 - (l0.length : Int))))
set_option maxHeartbeats 8000000 in
set_option maxRecDepth 100000 in
theorem laws_szInt64S.calls (A0 : Option Addr) (c0 : Nat) (l0 : List Int) (a1 : Int) (r : Int) (w : World) (hr0 : Kd.C (Kd.int .i64) w A0 l0.length l0) (hc0 : l0.length ≤ c0) (h : laws_szInt64S.f l0 a1 = some r) :
    Calls Tryd.prog 71 #[.slice A0 l0.length c0, .int .i64 a1] w fun e w' => e = .returned (.int .i64 r) ∧ Drawn0 w w' := by
 (have HR0 := A0_ hr0); (have HC0 := A0_ hc0); clear hr0 hc0; (have H : (if (wrap64 (a1 - (l0.length : Int))) < 0 then (some (-1)) else (some (wrap64 (a1 - (l0.length : Int))))) = some r := h); clear h; (by_cases c3 : (wrap64 (a1 - (l0.length : Int))) < 0)
 ·(rw [if_pos c3] at H); (have c3b0 : decide ((wrap64 (a1 - (l0.length : Int))) < 0) = true := decide_eq_true c3); clear c3; (obtain rfl := Option.some.inj H); (go_enter Tryd.func71, Tryd.ntmps71); go_wp2; go_ret; (exact ⟨by first | rfl | (simp; done) | (simp [*]; done), by repeat (first | exact Drawn0.refl _ | apply Drawn0.step)⟩)
 ·(rw [if_neg c3] at H); (have c3b0 : decide ((wrap64 (a1 - (l0.length : Int))) < 0) = false := decide_eq_false c3); clear c3; (obtain rfl := Option.some.inj H); (go_enter Tryd.func71, Tryd.ntmps71); go_wp2; go_ret; (exact ⟨by first | rfl | (simp; done) | (simp [*]; done), by repeat (first | exact Drawn0.refl _ | apply Drawn0.step)⟩)
end Go.Proofs.YtoglcgnbkibpgaaDoor.A

namespace Go.Proofs.YtoglcgnbkibpgaaDoor.A
open Go.RowKit Go.Proofs.YtoglcgnbkibpgaaDoorW.PrintWords Go.Proofs.YtoglcgnbkibpgaaDoorW.PrintLast Go.Proofs.YtoglcgnbkibpgaaDoorW.PrintMore
attribute [local go_sem] max2_int min2_int max_two min_two max_three min_three max_four min_four   -- for this text's walks alone
set_option linter.unusedVariables false
set_option linter.unusedSimpArgs false
def laws_szInt64SS.l0 : Nat → List (List Int) → Int → Int → Option (Int)
  | 0, _, _, _ => none
  | k + 1, x0, x1, x5 => if x5 < (x0.length : Int) then (if 0 ≤ x5 then ((laws_szInt64S.f (rd_L1 x0 x5) x1).bind fun t102 => (if t102 < 0 then (some (-1)) else (laws_szInt64SS.l0 k x0 t102 (wrap64 (x5 + 1))))) else (none)) else (some x1)
def laws_szInt64SS.f (k : Nat) (l0 : List (List Int)) (a1 : Int) : Option (Int) := if (wrap64 (a1 - (l0.length : Int))) < 0 then (some (-1)) else (laws_szInt64SS.l0 k l0 (wrap64 (a1 - (l0.length : Int))) 0)
set_option maxHeartbeats 8000000 in
set_option maxRecDepth 100000 in
theorem laws_szInt64SS.calls (k : Nat) (A0 : Option Addr) (c0 : Nat) (l0 : List (List Int)) (a1 : Int) (r : Int) (w : World) (hr0 : Kd.C (Kd.slice 2 (Kd.int .i64)) w A0 l0.length l0) (hc0 : l0.length ≤ c0) (h : laws_szInt64SS.f k l0 a1 = some r) :
    Calls Tryd.prog 41 #[.slice A0 l0.length c0, .int .i64 a1] w fun e w' => e = .returned (.int .i64 r) ∧ Drawn0 w w' := by
 (have HR0 := A0_ hr0); (have HC0 := A0_ hc0); clear hr0 hc0; (have H : (if (wrap64 (a1 - (l0.length : Int))) < 0 then (some (-1)) else (laws_szInt64SS.l0 k l0 (wrap64 (a1 - (l0.length : Int))) 0)) = some r := h); clear h; (by_cases c3 : (wrap64 (a1 - (l0.length : Int))) < 0)
 ·(rw [if_pos c3] at H); (have c3b0 : decide ((wrap64 (a1 - (l0.length : Int))) < 0) = true := decide_eq_true c3); clear c3; (obtain rfl := Option.some.inj H); (go_enter Tryd.func41, Tryd.ntmps41); go_wp2; go_ret; (exact ⟨by first | rfl | (simp; done) | (simp [*]; done), by repeat (first | exact Drawn0.refl _ | apply Drawn0.step)⟩)
 ·(rw [if_neg c3] at H); (have c3b0 : decide ((wrap64 (a1 - (l0.length : Int))) < 0) = false := decide_eq_false c3); clear c3; (have H' := A0_ H); clear H; (go_enter Tryd.func41, Tryd.ntmps41); go_wp2
  go_loopg [1, 5] k (fun kq v1 v5 w' => ∃ (x1_1 : Int) (x5_1 : Int), v1 = .int .i64 x1_1 ∧ v5 = .int .i64 x5_1 ∧ Aside0 (laws_szInt64SS.l0 kq l0 x1_1 x5_1 = some r) ∧ Aside0 (kq ≤ k) ∧ Drawn0 w w')
  case atStart => exact ⟨(wrap64 (a1 - (l0.length : Int))), (0), (by first | rfl | (simp; done) | (simp [*]; done)), (by first | rfl | (simp; done) | (simp [*]; done)), H', ⟨Nat.le_refl _⟩, by repeat (first | exact Drawn0.refl _ | apply Drawn0.step)⟩
  case round =>
   clear H'; (try clear p2); (try clear c3); (try clear c3b0); (obtain ⟨x1_1, x5_1, rfl, rfl, HA, HK1, ⟨m1, rfl⟩⟩ := hrel)
   cases gk with
   | zero => exact absurd HA.out (by simp [laws_szInt64SS.l0])
   | succ k1 =>
    (have H := HA.out); clear HA; (simp only [laws_szInt64SS.l0] at H); (by_cases c4 : x5_1 < (l0.length : Int))
    ·(rw [if_pos c4] at H); (have c4b0 : decide (x5_1 < (l0.length : Int)) = true := decide_eq_true c4); clear c4; (by_cases c5 : 0 ≤ x5_1)
     ·(rw [if_pos c5] at H); (have c5b0 : decide (0 ≤ x5_1) = true := decide_eq_true c5); clear c5; (replace H := Option.bind_eq_some_iff.mp H); (obtain ⟨t102, A60, H⟩ := H); (try dsimp only at H); (have A6 := A0_ A60); clear A60; (have H0_ := A0_ H); clear H; (have p101 : 0 ≤ (x5_1 : Int) := of_decide_eq_true (by first | (with_reducible assumption) | assumption)); (have q101 : x5_1 < (l0.length : Int) := of_decide_eq_true (by first | (with_reducible assumption) | assumption)); (obtain ⟨ad101, A101_0, c101_0, e101, hx101_0, hl101_0, hi101_0⟩ := at_L1 HR0.out x5_1 p101 q101); (cases e101); (have HR101_0 := A0_ hi101_0); (have HC101_0 := A0_ hl101_0); clear hi101_0 hl101_0; (replace p101 := eq_true p101); (replace q101 := eq_true q101); (go_wp2_with (first | ((with_reducible refine gate_callee (f := 71) rfl ?_); refine goesL_ (some 23) rfl rfl Tryd.func71 (by kernel_rfl) rfl #[.slice A101_0 (rd_L1 l0 x5_1).length c101_0, .int .i64 x1_1] rfl (by (try simp only [List.map_toArray, List.map_cons, List.map_nil]); first | done | rfl | (simp only [List.length_drop, List.length_take]; rfl)) ?_; (with_reducible refine (laws_szInt64S.calls _ _ (rd_L1 l0 x5_1) x1_1 t102 _ ?side1 ?side2 A6.out).mono ?_); (case side1 => repeat (first | exact HR101_0.out | (with_reducible refine Kd.C_alloc ?_ _) | (with_reducible refine Kd.C_drewN ?_ _) | (with_reducible refine Kd.C_drew ?_))); (case side2 => exact HC101_0.out); rintro e w' ⟨rfl, ⟨nd, rfl⟩⟩; refine ⟨_, rfl, ?_⟩; refine Stop0.out ?_))); (refine Stop0.mk ?_); (have H := H0_.out); clear H0_; (by_cases c7 : t102 < 0)
      ·(rw [if_pos c7] at H); (have c7b0 : decide (t102 < 0) = true := decide_eq_true c7); clear c7; (obtain rfl := Option.some.inj H); go_wp2; go_ret; (exact ⟨by first | rfl | (simp; done) | (simp [*]; done), by repeat (first | exact Drawn0.refl _ | apply Drawn0.step)⟩)
      ·(rw [if_neg c7] at H); (have c7b0 : decide (t102 < 0) = false := decide_eq_false c7); clear c7; (have H' := A0_ H); clear H; go_wp2; (go_roundg k1)
       case measure => have := HK1.out; omega
       case rel => exact ⟨(t102), (wrap64 (x5_1 + 1)), (by first | rfl | (simp; done) | (simp [*]; done)), (by first | rfl | (simp; done) | (simp [*]; done)), H', ⟨by have := HK1.out; omega⟩, by repeat (first | exact Drawn0.refl _ | apply Drawn0.step)⟩
     ·(rw [if_neg c5] at H); (exact absurd H (by simp))
    ·(rw [if_neg c4] at H); (have c4b0 : decide (x5_1 < (l0.length : Int)) = false := decide_eq_false c4); clear c4; (obtain rfl := Option.some.inj H); go_wp2; go_ret; (exact ⟨by first | rfl | (simp; done) | (simp [*]; done), by repeat (first | exact Drawn0.refl _ | apply Drawn0.step)⟩)
end Go.Proofs.YtoglcgnbkibpgaaDoor.A

namespace Go.Proofs.YtoglcgnbkibpgaaDoor.A
open Go.RowKit Go.Proofs.YtoglcgnbkibpgaaDoorW.PrintWords Go.Proofs.YtoglcgnbkibpgaaDoorW.PrintLast Go.Proofs.YtoglcgnbkibpgaaDoorW.PrintMore
attribute [local go_sem] max2_int min2_int max_two min_two max_three min_three max_four min_four   -- for this text's walks alone
set_option linter.unusedVariables false
set_option linter.unusedSimpArgs false
def laws_szCover.f (k : Nat) (a0_0 : Int) (a0_1 : Int) (l0_2 : List (List Int)) (a1 : Int) : Option (Int) := (laws_szInt64SS.f k l0_2 a1).bind fun t104 => (if t104 < 0 then (some (-1)) else (some t104))
set_option maxHeartbeats 8000000 in
set_option maxRecDepth 100000 in
theorem laws_szCover.calls (k : Nat) (a0_0 : Int) (a0_1 : Int) (A0_2 : Option Addr) (c0_2 : Nat) (l0_2 : List (List Int)) (a1 : Int) (r : Int) (w : World) (hr0_2 : Kd.C (Kd.slice 2 (Kd.int .i64)) w A0_2 l0_2.length l0_2) (hc0_2 : l0_2.length ≤ c0_2) (h : laws_szCover.f k a0_0 a0_1 l0_2 a1 = some r) :
    Calls Tryd.prog 10 #[.agg #[.int .i64 a0_0, .int .i64 a0_1, .slice A0_2 l0_2.length c0_2], .int .i64 a1] w fun e w' => e = .returned (.int .i64 r) ∧ Below w.heap.size w w' := by
 (have hu24 := Tryd.underlying24); (have HR0_2 := A0_ hr0_2); (have HC0_2 := A0_ hc0_2); clear hr0_2 hc0_2; (have HB := A0_ (Below.refl w.heap.size w))
 have H : ((laws_szInt64SS.f k l0_2 a1).bind fun t104 => (if t104 < 0 then (some (-1)) else (some t104))) = some r := h
 clear h; (replace H := Option.bind_eq_some_iff.mp H); (obtain ⟨t104, A30, H⟩ := H); (try dsimp only at H); (have A3 := A0_ A30); clear A30; (have H0_ := A0_ H); clear H; (go_enter Tryd.func10, Tryd.ntmps10); (go_wp2_with (first | ((with_reducible refine gate_dst (N := 2) rfl ?_); refine box_event ?hg (N := 2) ?hd (cs := #[.int .i64 a0_0, .int .i64 a0_1, .slice A0_2 l0_2.length c0_2]) (t := 24) ?hr ?_; (case hd => rfl); (case hg => rfl); (case hr => first | (go_simp; done) | (go_simp; rfl)); intro gb103 hg w4 hbox hb; have n0_ := A0_ (below_step (by repeat (first | (with_reducible first | exact HB.out | apply ba_ | apply bn_ | apply bd_) | exact HB.out)) hb); have n1_ := A0_ (hbox); have n2_ := A0_ ((by rw [hg]; exact (below_size (by repeat (first | (with_reducible first | exact HB.out | apply ba_ | apply bn_ | apply bd_) | exact HB.out))) : w.heap.size ≤ gb103)); have n3_ := A0_ ((by rw [hg]; exact (below_size (by repeat (first | (with_reducible first | exact HB.out | apply ba_ | apply bn_ | apply bd_) | exact HB.out))) : w.heap.size ≤ gb103)); clear HB; have HB := n0_; have BK103 := n1_; have GW103 := n2_; have GE103 := n3_; clear n0_ n1_ n2_ n3_; clear hb hbox hg; have hcz5_0 : w4.cell? ⟨gb103, 0, none⟩ = some (.int .i64 a0_0) := (blk_cell BK103.out 0).trans rfl; have hcz5_1 : w4.cell? ⟨gb103, 1, none⟩ = some (.int .i64 a0_1) := (blk_cell BK103.out 1).trans rfl; have hcz5_2 : w4.cell? ⟨gb103, 2, none⟩ = some (.slice A0_2 l0_2.length c0_2) := (blk_cell BK103.out 2).trans rfl; have hfz5_0 := blk_frozen BK103.out 0; have hfz5_1 := blk_frozen BK103.out 1; have hfz5_2 := blk_frozen BK103.out 2) | ((with_reducible refine gate_callee (f := 41) rfl ?_); refine goesL_ (some 8) rfl rfl Tryd.func41 (by kernel_rfl) rfl #[.slice A0_2 l0_2.length c0_2, .int .i64 a1] rfl (by (try simp only [List.map_toArray, List.map_cons, List.map_nil]); first | done | rfl | (simp only [List.length_drop, List.length_take]; rfl)) ?_; (with_reducible refine (laws_szInt64SS.calls k _ _ l0_2 a1 t104 _ ?side1 ?side2 A3.out).mono ?_); (case side1 => repeat (first | exact (Kd.C_below HR0_2.out HB.out) | (with_reducible refine Kd.C_alloc ?_ _) | (with_reducible refine Kd.C_drewN ?_ _) | (with_reducible refine Kd.C_drew ?_))); (case side2 => exact HC0_2.out); rintro e w' ⟨rfl, ⟨nd, rfl⟩⟩; refine ⟨_, rfl, ?_⟩; refine Stop0.out ?_))); (refine Stop0.mk ?_); (have H := H0_.out); clear H0_; (by_cases c6 : t104 < 0)
 ·(rw [if_pos c6] at H); (have c6b0 : decide (t104 < 0) = true := decide_eq_true c6); clear c6; (obtain rfl := Option.some.inj H); go_wp2; go_ret; (exact ⟨by first | rfl | (simp [errW_none, errW_some] <;> rfl) | (simp [*, errW_none, errW_some] <;> rfl), by repeat (first | (with_reducible first | exact HB.out | apply ba_ | apply bn_ | apply bd_ | refine below_set ?_ GE103.out) | exact HB.out)⟩)
 ·(rw [if_neg c6] at H); (have c6b0 : decide (t104 < 0) = false := decide_eq_false c6); clear c6; (obtain rfl := Option.some.inj H); go_wp2; go_ret; (exact ⟨by first | rfl | (simp [errW_none, errW_some] <;> rfl) | (simp [*, errW_none, errW_some] <;> rfl), by repeat (first | (with_reducible first | exact HB.out | apply ba_ | apply bn_ | apply bd_ | refine below_set ?_ GE103.out) | exact HB.out)⟩)
end Go.Proofs.YtoglcgnbkibpgaaDoor.A

namespace Go.Proofs.YtoglcgnbkibpgaaDoor.A
open Go.RowKit Go.Proofs.YtoglcgnbkibpgaaDoorW.PrintWords Go.Proofs.YtoglcgnbkibpgaaDoorW.PrintLast Go.Proofs.YtoglcgnbkibpgaaDoorW.PrintMore
attribute [local go_sem] max2_int min2_int max_two min_two max_three min_three max_four min_four   -- for this text's walks alone
set_option linter.unusedVariables false
set_option linter.unusedSimpArgs false
def laws_toInt64S.l0 : Nat → List Int → List Int → Int → Option (List Int)
  | 0, _, _, _ => none
  | k + 1, x0, x3, x4 => if x4 < (x0.length : Int) then (if 0 ≤ x4 then (if x4 < (x3.length : Int) then (laws_toInt64S.l0 k x0 (x3.set (x4 : Int).toNat (rd x0 x4)) (wrap64 (x4 + 1))) else (none)) else (none)) else (some x3)
def laws_toInt64S.f (k : Nat) (l0 : List Int) : Option (List Int) := if 0 ≤ (l0.length : Int) then (if ((l0.length : Int) : Int).toNat ≤ 35184372088832 then (laws_toInt64S.l0 k l0 (List.replicate ((l0.length : Int) : Int).toNat 0) 0) else (none)) else (none)
set_option maxHeartbeats 8000000 in
set_option maxRecDepth 100000 in
theorem laws_toInt64S.calls (k : Nat) (A0 : Option Addr) (c0 : Nat) (l0 : List Int) (r : List Int) (w : World) (hr0 : Kd.C (Kd.int .i64) w A0 l0.length l0) (hc0 : l0.length ≤ c0) (h : laws_toInt64S.f k l0 = some r) :
    Calls Tryd.prog 72 #[.slice A0 l0.length c0] w fun e w' => ∃ v0_ : Value, e = .returned (v0_) ∧ Kd.R (Kd.int .i64) 2 w' w.heap.size (fun _ => True) v0_ r ∧ Below w.heap.size w w' := by
 (have HR0 := A0_ hr0); (have HC0 := A0_ hc0); clear hr0 hc0; (have HB := A0_ (Below.refl w.heap.size w)); (have H : (if 0 ≤ (l0.length : Int) then (if ((l0.length : Int) : Int).toNat ≤ 35184372088832 then (laws_toInt64S.l0 k l0 (List.replicate ((l0.length : Int) : Int).toNat 0) 0) else (none)) else (none)) = some r := h); clear h; (by_cases c2 : 0 ≤ (l0.length : Int))
 ·(rw [if_pos c2] at H); (have c2b0 := eq_true c2); (have c2b1 : decide (0 ≤ (l0.length : Int)) = true := decide_eq_true c2); clear c2; (by_cases c3 : ((l0.length : Int) : Int).toNat ≤ 35184372088832)
  ·(rw [if_pos c3] at H); (have c3b0 := eq_true c3); (have c3b1 : decide (((l0.length : Int) : Int).toNat ≤ 35184372088832) = true := decide_eq_true c3); clear c3; (obtain ⟨y174, hy174⟩ : ∃ y_ : List Int, y_ = (List.replicate ((l0.length : Int) : Int).toNat 0) := ⟨_, rfl⟩); (replace H : (laws_toInt64S.l0 k l0 y174 0) = some r := by first | (rw [hy174]; with_reducible exact H) | (have H2_ := (Option.bind_some _ _).symm.trans H; rw [hy174]; with_reducible exact H2_) | (have H2_ := (Option.bind_some _ _).symm.trans H; with_reducible exact H2_) | with_reducible exact H | (rw [hy174]; exact H) | exact H); (have Ny174 := A0_ hy174); clear hy174; (have H' := A0_ H); clear H; (go_enter Tryd.func72, Tryd.ntmps72)
   go_wp2_with (first | ((with_reducible refine gate_dst (N := 7) rfl ?_); refine Kd.R_make (Kd.int .i64) _ 2 rfl (N := 7) rfl 32 _ _ rfl (l0.length : Int) rfl rfl Tryd.underlying32 (.int .i64 0) 8 info2 rfl (by decide) (by omega) 0 (ok := fun _ => True) (okp := fun _ => True) rfl (fun _ hk => hk) trivial (of_decide_eq_true (by first | (with_reducible assumption) | assumption)) (Nat.le_trans (Nat.mul_le_mul_right _ (of_decide_eq_true (by first | (with_reducible assumption) | assumption) : (l0.length : Int).toNat ≤ 35184372088832)) (by omega)) (Below.refl _ _) (Nat.le_refl _) ?_; intro v175 w4 ho5 hb hg_ hnew_; clear hg_ hnew_; (first | rw [← Ny174.out] at ho5 | (simp only [Int.reduceToNat] at ho5; rw [← Ny174.out] at ho5)); have n0_ := A0_ (Kd.R_lower ho5 (below_size (by repeat (first | (with_reducible first | exact HB.out | apply ba_ | apply bn_ | apply bd_) | exact HB.out)))); have n1_ := A0_ (below_step (by repeat (first | (with_reducible first | exact HB.out | apply ba_ | apply bn_ | apply bd_) | exact HB.out)) hb); clear HB; have HO176 := n0_; have HB := n1_; clear n0_ n1_; clear hb ho5))
   go_loopg [4] k (fun kq v4 w' => ∃ (x3_1 : List Int) (x4_1 : Int), v4 = .int .i64 x4_1 ∧ Aside0 (laws_toInt64S.l0 kq l0 x3_1 x4_1 = some r) ∧ Aside0 (kq ≤ k) ∧ Aside0 (Kd.R (Kd.int .i64) 2 w' w.heap.size (fun _ => True) v175 x3_1) ∧ Aside0 (Below w.heap.size w w'))
   case atStart => exact ⟨(y174), (0), (by first | rfl | (simp; done) | (simp [*]; done)), H', ⟨Nat.le_refl _⟩, ⟨by (with_reducible repeat (first | apply Ra_ | apply Rn_ | apply Rd_)); exact HO176.out⟩, ⟨by repeat (first | (with_reducible first | exact HB.out | apply ba_ | apply bn_ | apply bd_) | exact HB.out)⟩⟩
   case round =>
    clear H'; (try clear c2); (try clear c2b0); (try clear c2b1); (try clear p2); (try clear c3); (try clear c3b0); (try clear c3b1); (obtain ⟨x3_1, x4_1, rfl, HA, HK1, HO_3, HB⟩ := hrel)
    cases gk with
    | zero => exact absurd HA.out (by simp [laws_toInt64S.l0])
    | succ k1 =>
     (have H := HA.out); clear HA; (simp only [laws_toInt64S.l0] at H); (by_cases c6 : x4_1 < (l0.length : Int))
     ·(rw [if_pos c6] at H); (have c6b0 : decide (x4_1 < (l0.length : Int)) = true := decide_eq_true c6); clear c6; (by_cases c7 : 0 ≤ x4_1)
      ·(rw [if_pos c7] at H); (have c7b0 : decide (0 ≤ x4_1) = true := decide_eq_true c7); clear c7; (by_cases c8 : x4_1 < (x3_1.length : Int))
       ·(rw [if_pos c8] at H); (have c8b0 : decide (x4_1 < (x3_1.length : Int)) = true := decide_eq_true c8); clear c8; (obtain ⟨y178, hy178⟩ : ∃ y_ : List Int, y_ = (x3_1.set (x4_1 : Int).toNat (rd l0 x4_1)) := ⟨_, rfl⟩); (replace H : (laws_toInt64S.l0 k1 l0 y178 (wrap64 (x4_1 + 1))) = some r := by first | (rw [hy178]; with_reducible exact H) | (have H2_ := (Option.bind_some _ _).symm.trans H; rw [hy178]; with_reducible exact H2_) | (have H2_ := (Option.bind_some _ _).symm.trans H; with_reducible exact H2_) | with_reducible exact H | (rw [hy178]; exact H) | exact H); (have Ny178 := A0_ hy178); clear hy178; (have H' := A0_ H); clear H; (have p177 : 0 ≤ (x4_1 : Int) := of_decide_eq_true (by first | (with_reducible assumption) | assumption)); (have q177 : x4_1 < (l0.length : Int) := of_decide_eq_true (by first | (with_reducible assumption) | assumption)); (obtain ⟨ad177, e177, hx177_0⟩ := Kd.at_int HR0.out x4_1 p177 q177); (cases e177); (replace hx177_0 := (HB.out.cell (World.block_lt_of_cell? w _ hx177_0)).trans hx177_0); (replace p177 := eq_true p177); (replace q177 := eq_true q177); (have p9 : 0 ≤ (x4_1 : Int) := of_decide_eq_true (by first | (with_reducible assumption) | assumption)); (have q9 : (x4_1 : Int) < ((x3_1.length : Int) : Int) := of_decide_eq_true (by first | (with_reducible assumption) | assumption)); (obtain ⟨go9, co9, eo9, gb9, gl9, cl9, HG9⟩ := Kd.R_form HO_3.out (by omega)); ((first | cases eo9 | (injection eo9 with ea_ en_ ec_; (first | subst ea_ | (injection ea_ with ea_; subst ea_)); subst ec_; clear en_))); (have GB9 := A0_ gb9); (have GG9 := A0_ HG9); clear gb9 gl9 HG9; (obtain ⟨hx9_0, hf9_0⟩ := Kd.R_celln 0 HO_3.out (x4_1 : Int) p9 q9); (replace p9 := eq_true p9); (replace q9 := eq_true q9); (have HP10 := Kd.R_putg HO_3.out (x4_1 : Int) (rd l0 x4_1))
        go_wp2_with (first | ((with_reducible refine gate_store (t := 2) (p := 20) rfl ?_); refine store_event (t := 2) (p := 20) (v := ?vo_w11) (w1 := (wr.setCell ⟨go9, (x4_1 : Int).toNat, none⟩ (.int .i64 (rd l0 x4_1)))) ?hg ?ho ?hn ?hr ?_; (case ho => rfl); (case hg => rfl); (case hn => rfl); (case hr => first | (go_simp; done) | (go_simp; rfl)); intro w11 hw; have hg : wr.grownBy w11 (some go9) := (by rw [hw]; exact HP10.2); have hp_ : Kd.R (Kd.int .i64) 2 w11 w.heap.size (fun _ => True) (.slice (some ⟨go9, 0, none⟩) x3_1.length co9) y178 := (by rw [hw, Ny178.out]; exact HP10.1); clear HP10; have n0_ := A0_ (hp_); have n1_ := A0_ ((by rw [hw]; exact below_set (HB.out) GB9.out : Below w.heap.size w w11)); clear HO_3; clear HB; have HO_3 := n0_; have HB := n1_; clear n0_ n1_; clear hg hw hp_))
        (go_roundg k1)
        case measure => have := HK1.out; omega
        case rel => exact ⟨(y178), (wrap64 (x4_1 + 1)), (by first | rfl | (simp; done) | (simp [*]; done)), H', ⟨by have := HK1.out; omega⟩, ⟨by (with_reducible repeat (first | apply Ra_ | apply Rn_ | apply Rd_)); exact HO_3.out⟩, ⟨by repeat (first | (with_reducible first | exact HB.out | apply ba_ | apply bn_ | apply bd_) | exact HB.out)⟩⟩
       ·(rw [if_neg c8] at H); (exact absurd H (by simp))
      ·(rw [if_neg c7] at H); (exact absurd H (by simp))
     ·(rw [if_neg c6] at H); (have c6b0 : decide (x4_1 < (l0.length : Int)) = false := decide_eq_false c6); clear c6; (obtain rfl := Option.some.inj H); go_wp2; go_ret; (exact ⟨_, by first | rfl | (simp [errW_none, errW_some] <;> rfl) | (simp [*, errW_none, errW_some] <;> rfl), by (with_reducible repeat (first | apply Ra_ | apply Rn_ | apply Rd_)); exact HO_3.out, by repeat (first | (with_reducible first | exact HB.out | apply ba_ | apply bn_ | apply bd_) | exact HB.out)⟩)
  ·(rw [if_neg c3] at H); (exact absurd H (by simp))
 ·(rw [if_neg c2] at H); (exact absurd H (by simp))
end Go.Proofs.YtoglcgnbkibpgaaDoor.A

namespace Go.Proofs.YtoglcgnbkibpgaaDoor.A
open Go.RowKit Go.Proofs.YtoglcgnbkibpgaaDoorW.PrintWords Go.Proofs.YtoglcgnbkibpgaaDoorW.PrintLast Go.Proofs.YtoglcgnbkibpgaaDoorW.PrintMore
attribute [local go_sem] max2_int min2_int max_two min_two max_three min_three max_four min_four   -- for this text's walks alone
set_option linter.unusedVariables false
set_option linter.unusedSimpArgs false
def laws_toInt64SS.l0 : Nat → List (List Int) → List (List Int) → Int → Option ((List (List Int)))
  | 0, _, _, _ => none
  | k + 1, x0, x3, x4 => if x4 < (x0.length : Int) then (if 0 ≤ x4 then ((laws_toInt64S.f k (rd_L1 x0 x4)).bind fun t183 => (if x4 < (x3.length : Int) then (laws_toInt64SS.l0 k x0 (x3.set (x4 : Int).toNat t183) (wrap64 (x4 + 1))) else (none))) else (none)) else (some x3)
def laws_toInt64SS.f (k : Nat) (l0 : List (List Int)) : Option ((List (List Int))) := if 0 ≤ (l0.length : Int) then (if ((l0.length : Int) : Int).toNat ≤ 11728124029610 then (laws_toInt64SS.l0 k l0 (List.replicate ((l0.length : Int) : Int).toNat []) 0) else (none)) else (none)
set_option maxHeartbeats 8000000 in
set_option maxRecDepth 100000 in
theorem laws_toInt64SS.calls (k : Nat) (A0 : Option Addr) (c0 : Nat) (l0 : List (List Int)) (r : List (List Int)) (w : World) (hr0 : Kd.C (Kd.slice 2 (Kd.int .i64)) w A0 l0.length l0) (hc0 : l0.length ≤ c0) (h : laws_toInt64SS.f k l0 = some r) :
    Calls Tryd.prog 43 #[.slice A0 l0.length c0] w fun e w' => ∃ v0_ : Value, e = .returned (v0_) ∧ Kd.S (Kd.slice 2 (Kd.int .i64)) 32 w' w.heap.size (fun _ => True) v0_ r ∧ Below w.heap.size w w' := by
 (have HR0 := A0_ hr0); (have HC0 := A0_ hc0); clear hr0 hc0; (have HB := A0_ (Below.refl w.heap.size w)); (have H : (if 0 ≤ (l0.length : Int) then (if ((l0.length : Int) : Int).toNat ≤ 11728124029610 then (laws_toInt64SS.l0 k l0 (List.replicate ((l0.length : Int) : Int).toNat []) 0) else (none)) else (none)) = some r := h); clear h; (by_cases c2 : 0 ≤ (l0.length : Int))
 ·(rw [if_pos c2] at H); (have c2b0 := eq_true c2); (have c2b1 : decide (0 ≤ (l0.length : Int)) = true := decide_eq_true c2); clear c2; (by_cases c3 : ((l0.length : Int) : Int).toNat ≤ 11728124029610)
  ·(rw [if_pos c3] at H); (have c3b0 := eq_true c3); (have c3b1 : decide (((l0.length : Int) : Int).toNat ≤ 11728124029610) = true := decide_eq_true c3); clear c3; (obtain ⟨y179, hy179⟩ : ∃ y_ : List (List Int), y_ = (List.replicate ((l0.length : Int) : Int).toNat []) := ⟨_, rfl⟩); (replace H : (laws_toInt64SS.l0 k l0 y179 0) = some r := by first | (rw [hy179]; with_reducible exact H) | (have H2_ := (Option.bind_some _ _).symm.trans H; rw [hy179]; with_reducible exact H2_) | (have H2_ := (Option.bind_some _ _).symm.trans H; with_reducible exact H2_) | with_reducible exact H | (rw [hy179]; exact H) | exact H); (have Ny179 := A0_ hy179); clear hy179; (have H' := A0_ H); clear H; (go_enter Tryd.func43, Tryd.ntmps43)
   go_wp2_with (first | ((with_reducible refine gate_dst (N := 7) rfl ?_); refine Kd.S_make (Kd.slice 2 (Kd.int .i64)) _ 32 rfl (N := 7) rfl 22 _ _ rfl (l0.length : Int) rfl rfl Tryd.underlying22 (.slice none 0 0) 24 info32 rfl (by decide) (by omega) [] (ok := fun _ => True) (okp := fun _ => True) ⟨_, rfl, Kd.R_nil _ _ _ _ _⟩ (fun _ hk => hk) trivial (of_decide_eq_true (by first | (with_reducible assumption) | assumption)) (Nat.le_trans (Nat.mul_le_mul_right _ (of_decide_eq_true (by first | (with_reducible assumption) | assumption) : (l0.length : Int).toNat ≤ 11728124029610)) (by omega)) (Below.refl _ _) (Nat.le_refl _) ?_; intro v180 w4 ho5 hb hg_ hnew_; clear hg_ hnew_; (first | rw [← Ny179.out] at ho5 | (simp only [Int.reduceToNat] at ho5; rw [← Ny179.out] at ho5)); have n0_ := A0_ (Kd.S_lower ho5 (below_size (by repeat (first | (with_reducible first | exact HB.out | apply ba_ | apply bn_ | apply bd_) | exact HB.out)))); have n1_ := A0_ (below_step (by repeat (first | (with_reducible first | exact HB.out | apply ba_ | apply bn_ | apply bd_) | exact HB.out)) hb); clear HB; have HO181 := n0_; have HB := n1_; clear n0_ n1_; clear hb ho5))
   go_loopg [4] k (fun kq v4 w' => ∃ (x3_1 : List (List Int)) (x4_1 : Int), v4 = .int .i64 x4_1 ∧ Aside0 (laws_toInt64SS.l0 kq l0 x3_1 x4_1 = some r) ∧ Aside0 (kq ≤ k) ∧ Aside0 (Kd.S (Kd.slice 2 (Kd.int .i64)) 32 w' w.heap.size (fun _ => True) v180 x3_1) ∧ Aside0 (Below w.heap.size w w'))
   case atStart => exact ⟨(y179), (0), (by first | rfl | (simp; done) | (simp [*]; done)), H', ⟨Nat.le_refl _⟩, ⟨by (with_reducible repeat (first | apply Kd.S_alloc | apply Kd.S_drewN | apply Kd.S_drew)); exact HO181.out⟩, ⟨by repeat (first | (with_reducible first | exact HB.out | apply ba_ | apply bn_ | apply bd_) | exact HB.out)⟩⟩
   case round =>
    clear H'; (try clear c2); (try clear c2b0); (try clear c2b1); (try clear p2); (try clear c3); (try clear c3b0); (try clear c3b1); (try clear c4); (obtain ⟨x3_1, x4_1, rfl, HA, HK1, HO_3, HB⟩ := hrel)
    cases gk with
    | zero => exact absurd HA.out (by simp [laws_toInt64SS.l0])
    | succ k1 =>
     (have H := HA.out); clear HA; (simp only [laws_toInt64SS.l0] at H); (by_cases c6 : x4_1 < (l0.length : Int))
     ·(rw [if_pos c6] at H); (have c6b0 : decide (x4_1 < (l0.length : Int)) = true := decide_eq_true c6); clear c6; (by_cases c7 : 0 ≤ x4_1)
      ·(rw [if_pos c7] at H); (have c7b0 : decide (0 ≤ x4_1) = true := decide_eq_true c7); clear c7; (replace H := Option.bind_eq_some_iff.mp H); (obtain ⟨t183, A80, H⟩ := H); (try dsimp only at H); (have A8 := A0_ A80); clear A80; (have H0_ := A0_ H); clear H; (have p182 : 0 ≤ (x4_1 : Int) := of_decide_eq_true (by first | (with_reducible assumption) | assumption)); (have q182 : x4_1 < (l0.length : Int) := of_decide_eq_true (by first | (with_reducible assumption) | assumption)); (obtain ⟨ad182, A182_0, c182_0, e182, hx182_0, hl182_0, hi182_0⟩ := at_L1 HR0.out x4_1 p182 q182); (cases e182); (replace hx182_0 := (HB.out.cell (World.block_lt_of_cell? w _ hx182_0)).trans hx182_0); (have HR182_0 := A0_ hi182_0); (have HC182_0 := A0_ hl182_0); clear hi182_0 hl182_0; (replace p182 := eq_true p182); (replace q182 := eq_true q182); (go_wp2_with (first | ((with_reducible refine gate_callee (f := 72) rfl ?_); refine goesL_ (some 20) rfl rfl Tryd.func72 (by kernel_rfl) rfl #[.slice A182_0 (rd_L1 l0 x4_1).length c182_0] rfl (by (try simp only [List.map_toArray, List.map_cons, List.map_nil]); first | done | rfl | (simp only [List.length_drop, List.length_take]; rfl)) ?_; (with_reducible refine (laws_toInt64S.calls k1 _ _ (rd_L1 l0 x4_1) t183 _ ?side1 ?side2 A8.out).mono ?_); (case side1 => repeat (first | exact (Kd.C_below HR182_0.out HB.out) | (with_reducible refine Kd.C_alloc ?_ _) | (with_reducible refine Kd.C_drewN ?_ _) | (with_reducible refine Kd.C_drew ?_))); (case side2 => exact HC182_0.out); rintro e w9 ⟨v184, rfl, ho0, hb⟩; refine ⟨_, rfl, ?_⟩; have n0_ := A0_ (Kd.S_elder' (by (with_reducible repeat (first | apply Kd.S_alloc | apply Kd.S_drewN | apply Kd.S_drew)); exact HO_3.out) (Kd.R_base ho0) hb); have n1_ := A0_ (Kd.R_lower ho0 (below_size (by repeat (first | (with_reducible first | exact HB.out | apply ba_ | apply bn_ | apply bd_) | exact HB.out)))); have n2_ := A0_ (below_step (by repeat (first | (with_reducible first | exact HB.out | apply ba_ | apply bn_ | apply bd_) | exact HB.out)) hb); clear HO_3; clear HB; have HO_3 := n0_; have HO185 := n1_; have HB := n2_; clear n0_ n1_ n2_; (try clear hb); (try clear hb2); (try clear hk); (try clear hi); (try clear ho0); refine Stop0.out ?_))); (refine Stop0.mk ?_); (have H := H0_.out); clear H0_; (by_cases c10 : x4_1 < (x3_1.length : Int))
       ·(rw [if_pos c10] at H); (have c10b0 : decide (x4_1 < (x3_1.length : Int)) = true := decide_eq_true c10); clear c10; (obtain ⟨y186, hy186⟩ : ∃ y_ : List (List Int), y_ = (x3_1.set (x4_1 : Int).toNat t183) := ⟨_, rfl⟩); (replace H : (laws_toInt64SS.l0 k1 l0 y186 (wrap64 (x4_1 + 1))) = some r := by first | (rw [hy186]; with_reducible exact H) | (have H2_ := (Option.bind_some _ _).symm.trans H; rw [hy186]; with_reducible exact H2_) | (have H2_ := (Option.bind_some _ _).symm.trans H; with_reducible exact H2_) | with_reducible exact H | (rw [hy186]; exact H) | exact H); (have Ny186 := A0_ hy186); clear hy186; (have H' := A0_ H); clear H; (have p11 : 0 ≤ (x4_1 : Int) := of_decide_eq_true (by first | (with_reducible assumption) | assumption)); (have q11 : (x4_1 : Int) < ((x3_1.length : Int) : Int) := of_decide_eq_true (by first | (with_reducible assumption) | assumption)); (obtain ⟨go11, co11, eo11, gb11, gl11, cl11, HG11⟩ := Kd.S_form HO_3.out (by omega)); ((first | cases eo11 | (injection eo11 with ea_ en_ ec_; (first | subst ea_ | (injection ea_ with ea_; subst ea_)); subst ec_; clear en_))); (have GB11 := A0_ gb11); (have GG11 := A0_ HG11); clear gb11 gl11 HG11; (obtain ⟨_, ce11, hcl11, hM11, hcc11, hfr11, _, _⟩ := Kd.S_elem HO_3.out [] (x4_1 : Int) p11 q11); (obtain ⟨ve11_0, rfl, ge11_0⟩ := hM11); (have hx11_0 := hcc11 0 _ rfl); (have hf11_0 := hfr11 0); ((try simp only [show ((Kd.slice 2 (Kd.int .i64))).sz = 1 from rfl, Nat.mul_one, Nat.add_zero] at hx11_0)); ((try simp only [show ((Kd.slice 2 (Kd.int .i64))).sz = 1 from rfl, Nat.mul_one, Nat.add_zero] at hf11_0)); clear hcl11 hcc11 hfr11; (replace p11 := eq_true p11); (replace q11 := eq_true q11)
        have n_ := A0_ (Kd.S_mono (ok' := (fun k_ => some k_ ≠ (v184 : Value).ownBlock)) HO_3.out (fun k_ hk => hk.2))
        clear HO_3; (have HO_3 := n_); clear n_
        have HX12 := A0_ (show Kd.S (Kd.slice 2 (Kd.int .i64)) 32 w9 w.heap.size (fun k_ => ((fun _ => True)) k_ ∧ ¬ ((fun k_ => some k_ = (v184 : Value).ownBlock)) k_) (.slice (some ⟨go11, 0, none⟩) x3_1.length co11) x3_1 from (by (with_reducible repeat (first | apply Kd.S_alloc | apply Kd.S_drewN | apply Kd.S_drew)); exact Kd.S_mono HO_3.out (fun k_ hk => ⟨trivial, fun e_ => hk e_⟩)))
        (obtain ⟨oki12, ce12, hcl12, hM12, hcc12, hfr12, hoki12, hH12⟩ := Kd.S_elem HX12.out [] (x4_1 : Int) (of_decide_eq_true (by first | (with_reducible assumption) | assumption)) (by have h_ : (x4_1 : Int) < ((x3_1.length : Int) : Int) := of_decide_eq_true (by first | (with_reducible assumption) | assumption); first | exact h_ | (have e_ := (Kd.S_reads' HO_3.out).1; omega) | simpa using h_)); (obtain ⟨ve12_0, rfl, ge12_0⟩ := hM12)
        have HP12 := Kd.S_seg hH12 (of_decide_eq_true (by first | (with_reducible assumption) | assumption)) (by have h_ : (x4_1 : Int) < ((x3_1.length : Int) : Int) := of_decide_eq_true (by first | (with_reducible assumption) | assumption); first | exact h_ | (have e_ := (Kd.S_reads' HO_3.out).1; omega) | simpa using h_) (seg := [v184]) (j := 0) (show 1 ≤ 1 from by decide) (x' := t183) (Kd.M_row (Kd.R_mono (Kd.R_tight rfl (Kd.R_mono (ok' := fun k_ => ((fun _ => True)) k_ ∧ k_ ≠ go11) (Kd.R_apart' (HO185.out) (Kd.S_typed HO_3.out) (by decide)) (fun k_ hk => ⟨trivial, fun e_ => (hk.2) (by rw [e_]; rfl)⟩))) (fun _ h_ => Or.inr (h_)))) (fun _ hk => hk) (fun k_ hk_ => ((Kd.R_mono (ok' := fun k_ => ((fun _ => True)) k_ ∧ k_ ≠ go11) (Kd.R_apart' (HO185.out) (Kd.S_typed HO_3.out) (by decide)) (fun k_ hk => ⟨trivial, fun e_ => (hk.2) (by rw [e_]; rfl)⟩))).1 k_ hk_.symm)
        (have hx12_0 := hcc12 0 _ rfl); ((try simp only [show ((Kd.slice 2 (Kd.int .i64))).sz = 1 from rfl, Nat.mul_one, Nat.add_zero] at hx12_0)); (have hf12_0 := hfr12 0); ((try simp only [show ((Kd.slice 2 (Kd.int .i64))).sz = 1 from rfl, Nat.mul_one, Nat.add_zero] at hf12_0)); clear hcl12 hcc12 hfr12 hoki12 hH12; ((try simp only [show ((Kd.slice 2 (Kd.int .i64))).sz = 1 from rfl, Nat.mul_one, Nat.add_zero] at HP12))
        go_wp2_with (first | ((with_reducible refine gate_store (t := 32) (p := 21) rfl ?_); refine store_event (t := 32) (p := 21) (v := ?vo_w13) (w1 := (w9.setCell ⟨go11, (x4_1 : Int).toNat, none⟩ (v184))) ?hg ?ho ?hn ?hr ?_; (case ho => rfl); (case hg => rfl); (case hn => rfl); (case hr => obtain ⟨A_, c_, e_⟩ := Kd.R_slice HO185.out; rw [e_]; first | (go_simp; done) | (go_simp; rfl)); intro w13 hw; have hg : w9.grownBy w13 (some go11) := (by rw [hw]; exact HP12.2); have hp_ : Kd.S (Kd.slice 2 (Kd.int .i64)) 32 w13 w.heap.size (fun _ => True) (.slice (some ⟨go11, 0, none⟩) x3_1.length co11) y186 := (by rw [hw, Ny186.out]; exact HP12.1); clear HP12; have n0_ := A0_ (hp_); have n1_ := A0_ ((by rw [hw]; exact below_set (HB.out) GB11.out : Below w.heap.size w w13)); clear HO_3; clear HB; clear HO185; have HO_3 := n0_; have HB := n1_; clear n0_ n1_; clear hg hw hp_))
        (go_roundg k1)
        case measure => have := HK1.out; omega
        case rel => exact ⟨(y186), (wrap64 (x4_1 + 1)), (by first | rfl | (simp; done) | (simp [*]; done)), H', ⟨by have := HK1.out; omega⟩, ⟨by (with_reducible repeat (first | apply Kd.S_alloc | apply Kd.S_drewN | apply Kd.S_drew)); exact HO_3.out⟩, ⟨by repeat (first | (with_reducible first | exact HB.out | apply ba_ | apply bn_ | apply bd_) | exact HB.out)⟩⟩
       ·(rw [if_neg c10] at H); (exact absurd H (by simp))
      ·(rw [if_neg c7] at H); (exact absurd H (by simp))
     ·(rw [if_neg c6] at H); (have c6b0 : decide (x4_1 < (l0.length : Int)) = false := decide_eq_false c6); clear c6; (obtain rfl := Option.some.inj H); go_wp2; go_ret; (exact ⟨_, by first | rfl | (simp [errW_none, errW_some] <;> rfl) | (simp [*, errW_none, errW_some] <;> rfl), by (with_reducible repeat (first | apply Kd.S_alloc | apply Kd.S_drewN | apply Kd.S_drew)); exact HO_3.out, by repeat (first | (with_reducible first | exact HB.out | apply ba_ | apply bn_ | apply bd_) | exact HB.out)⟩)
  ·(rw [if_neg c3] at H); (exact absurd H (by simp))
 ·(rw [if_neg c2] at H); (exact absurd H (by simp))
end Go.Proofs.YtoglcgnbkibpgaaDoor.A

namespace Go.Proofs.YtoglcgnbkibpgaaDoor.A
open Go.RowKit Go.Proofs.YtoglcgnbkibpgaaDoorW.PrintWords Go.Proofs.YtoglcgnbkibpgaaDoorW.PrintLast Go.Proofs.YtoglcgnbkibpgaaDoorW.PrintMore
attribute [local go_sem] max2_int min2_int max_two min_two max_three min_three max_four min_four   -- for this text's walks alone
set_option linter.unusedVariables false
set_option linter.unusedSimpArgs false
def laws_toCover.f (k : Nat) (a0_0 : Int) (a0_1 : Int) (l0_2 : List (List Int)) : Option (Int × Int × (List (List Int))) := (laws_toInt64SS.f k l0_2).bind fun t190 => (some (a0_0, a0_1, t190))
set_option maxHeartbeats 8000000 in
set_option maxRecDepth 100000 in
theorem laws_toCover.calls (k : Nat) (a0_0 : Int) (a0_1 : Int) (A0_2 : Option Addr) (c0_2 : Nat) (l0_2 : List (List Int)) (r1 : Int) (r2 : Int) (r3 : List (List Int)) (w : World) (hr0_2 : Kd.C (Kd.slice 2 (Kd.int .i64)) w A0_2 l0_2.length l0_2) (hc0_2 : l0_2.length ≤ c0_2) (h : laws_toCover.f k a0_0 a0_1 l0_2 = some (r1, r2, r3)) :
    Calls Tryd.prog 12 #[.agg #[.int .i64 a0_0, .int .i64 a0_1, .slice A0_2 l0_2.length c0_2]] w fun e w' => ∃ v2_ : Value, e = .returned (.agg #[.int .i64 r1, .int .i64 r2, v2_]) ∧ Kd.S (Kd.slice 2 (Kd.int .i64)) 32 w' w.heap.size (fun _ => True) v2_ r3 ∧ Below w.heap.size w w' := by
 (have hu24 := Tryd.underlying24); (have hu28 := Tryd.underlying28); (have HR0_2 := A0_ hr0_2); (have HC0_2 := A0_ hc0_2); clear hr0_2 hc0_2; (have HB := A0_ (Below.refl w.heap.size w))
 have H : ((laws_toInt64SS.f k l0_2).bind fun t190 => (some (a0_0, a0_1, t190))) = some (r1, r2, r3) := h
 clear h; (replace H := Option.bind_eq_some_iff.mp H); (obtain ⟨t190, A20, H⟩ := H); (replace H : (some (a0_0, a0_1, t190)) = some (r1, r2, r3) := H); (have A2 := A0_ A20); clear A20; (have H0_ := A0_ H); clear H; (go_enter Tryd.func12, Tryd.ntmps12); (go_wp2_with (first | ((with_reducible refine gate_dst (N := 1) rfl ?_); refine box_event ?hg (N := 1) ?hd (cs := #[.int .i64 a0_0, .int .i64 a0_1, .slice A0_2 l0_2.length c0_2]) (t := 24) ?hr ?_; (case hd => rfl); (case hg => rfl); (case hr => first | (go_simp; done) | (go_simp; rfl)); intro gb187 hg w3 hbox hb; have n0_ := A0_ (below_step (by repeat (first | (with_reducible first | exact HB.out | apply ba_ | apply bn_ | apply bd_) | exact HB.out)) hb); have n1_ := A0_ (hbox); have n2_ := A0_ ((by rw [hg]; exact (below_size (by repeat (first | (with_reducible first | exact HB.out | apply ba_ | apply bn_ | apply bd_) | exact HB.out))) : w.heap.size ≤ gb187)); have n3_ := A0_ ((by rw [hg]; exact (below_size (by repeat (first | (with_reducible first | exact HB.out | apply ba_ | apply bn_ | apply bd_) | exact HB.out))) : w.heap.size ≤ gb187)); clear HB; have HB := n0_; have BK187 := n1_; have GW187 := n2_; have GE187 := n3_; clear n0_ n1_ n2_ n3_; clear hb hbox hg) | ((with_reducible refine gate_dst (N := 2) rfl ?_); refine box_event ?hg (N := 2) ?hd (cs := #[.int .i64 0, .int .i64 0, .slice none 0 0]) (t := 28) ?hr ?_; (case hd => rfl); (case hg => rfl); (case hr => first | (go_simp; done) | (go_simp; rfl)); intro gb188 hg w4 hbox hb; have n0_ := A0_ (blk_below (g := gb187) (o := .cells #[.int .i64 a0_0, .int .i64 a0_1, .slice A0_2 l0_2.length c0_2] 24 (0, 0)) (by (with_reducible repeat (first | apply gn_ | apply gd_ | apply ga_)); exact BK187.out) hb); have n1_ := A0_ (below_step (by repeat (first | (with_reducible first | exact HB.out | apply ba_ | apply bn_ | apply bd_ | refine below_set ?_ GE187.out) | exact HB.out)) hb); have n2_ := A0_ (hbox); have n3_ := A0_ ((by rw [hg]; exact (below_size (by repeat (first | (with_reducible first | exact HB.out | apply ba_ | apply bn_ | apply bd_ | refine below_set ?_ GE187.out) | exact HB.out))) : w.heap.size ≤ gb188)); have n4_ := A0_ ((by rw [hg]; exact (below_size (by repeat (first | (with_reducible first | exact HB.out | apply ba_ | apply bn_ | apply bd_ | refine below_set ?_ GE187.out) | exact HB.out))) : w.heap.size ≤ gb188)); have n5_ := A0_ ((by rw [hg]; exact Nat.ne_of_lt (blk_lt (g := gb187) (o := .cells #[.int .i64 a0_0, .int .i64 a0_1, .slice A0_2 l0_2.length c0_2] 24 (0, 0)) (by (with_reducible repeat (first | apply gn_ | apply gd_ | apply ga_)); exact BK187.out)) : gb187 ≠ gb188)); have n6_ := A0_ ((by rw [hg]; exact Nat.ne_of_gt (blk_lt (g := gb187) (o := .cells #[.int .i64 a0_0, .int .i64 a0_1, .slice A0_2 l0_2.length c0_2] 24 (0, 0)) (by (with_reducible repeat (first | apply gn_ | apply gd_ | apply ga_)); exact BK187.out)) : gb188 ≠ gb187)); clear BK187; clear HB; have BK187 := n0_; have HB := n1_; have BK188 := n2_; have GW188 := n3_; have GE188 := n4_; have NB187_188 := n5_; have NB188_187 := n6_; clear n0_ n1_ n2_ n3_ n4_ n5_ n6_; clear hb hbox hg) | ((with_reducible refine gate_dst (N := 3) rfl ?_); refine box_event ?hg (N := 3) ?hd (cs := #[.int .i64 0, .int .i64 0, .slice none 0 0]) (t := 28) ?hr ?_; (case hd => rfl); (case hg => rfl); (case hr => first | (go_simp; done) | (go_simp; rfl)); intro gb189 hg w5 hbox hb; have n0_ := A0_ (blk_below (g := gb187) (o := .cells #[.int .i64 a0_0, .int .i64 a0_1, .slice A0_2 l0_2.length c0_2] 24 (0, 0)) (by (with_reducible repeat (first | apply gn_ | apply gd_ | apply ga_)); exact BK187.out) hb); have n1_ := A0_ (blk_below (g := gb188) (o := .cells #[.int .i64 0, .int .i64 0, .slice none 0 0] 28 (0, 0)) (by (with_reducible repeat (first | apply gn_ | apply gd_ | apply ga_)); exact BK188.out) hb); have n2_ := A0_ (below_step (by repeat (first | (with_reducible first | exact HB.out | apply ba_ | apply bn_ | apply bd_ | refine below_set ?_ GE187.out | refine below_set ?_ GE188.out) | exact HB.out)) hb); have n3_ := A0_ (hbox); have n4_ := A0_ ((by rw [hg]; exact (below_size (by repeat (first | (with_reducible first | exact HB.out | apply ba_ | apply bn_ | apply bd_ | refine below_set ?_ GE187.out | refine below_set ?_ GE188.out) | exact HB.out))) : w.heap.size ≤ gb189)); have n5_ := A0_ ((by rw [hg]; exact (below_size (by repeat (first | (with_reducible first | exact HB.out | apply ba_ | apply bn_ | apply bd_ | refine below_set ?_ GE187.out | refine below_set ?_ GE188.out) | exact HB.out))) : w.heap.size ≤ gb189)); have n6_ := A0_ ((by rw [hg]; exact Nat.ne_of_lt (blk_lt (g := gb187) (o := .cells #[.int .i64 a0_0, .int .i64 a0_1, .slice A0_2 l0_2.length c0_2] 24 (0, 0)) (by (with_reducible repeat (first | apply gn_ | apply gd_ | apply ga_)); exact BK187.out)) : gb187 ≠ gb189)); have n7_ := A0_ ((by rw [hg]; exact Nat.ne_of_gt (blk_lt (g := gb187) (o := .cells #[.int .i64 a0_0, .int .i64 a0_1, .slice A0_2 l0_2.length c0_2] 24 (0, 0)) (by (with_reducible repeat (first | apply gn_ | apply gd_ | apply ga_)); exact BK187.out)) : gb189 ≠ gb187)); have n8_ := A0_ ((by rw [hg]; exact Nat.ne_of_lt (blk_lt (g := gb188) (o := .cells #[.int .i64 0, .int .i64 0, .slice none 0 0] 28 (0, 0)) (by (with_reducible repeat (first | apply gn_ | apply gd_ | apply ga_)); exact BK188.out)) : gb188 ≠ gb189)); have n9_ := A0_ ((by rw [hg]; exact Nat.ne_of_gt (blk_lt (g := gb188) (o := .cells #[.int .i64 0, .int .i64 0, .slice none 0 0] 28 (0, 0)) (by (with_reducible repeat (first | apply gn_ | apply gd_ | apply ga_)); exact BK188.out)) : gb189 ≠ gb188)); clear BK187; clear BK188; clear HB; have BK187 := n0_; have BK188 := n1_; have HB := n2_; have BK189 := n3_; have GW189 := n4_; have GE189 := n5_; have NB187_189 := n6_; have NB189_187 := n7_; have NB188_189 := n8_; have NB189_188 := n9_; clear n0_ n1_ n2_ n3_ n4_ n5_ n6_ n7_ n8_ n9_; clear hb hbox hg; have hnb6 := NB187_188.out; have hnc6 := NB188_187.out; have hnb7 := NB187_189.out; have hnc7 := NB189_187.out; have hcz8_0 : w5.cell? ⟨gb187, 0, none⟩ = some (.int .i64 a0_0) := (blk_cell BK187.out 0).trans rfl; have hcz8_1 : w5.cell? ⟨gb187, 1, none⟩ = some (.int .i64 a0_1) := (blk_cell BK187.out 1).trans rfl; have hcz8_2 : w5.cell? ⟨gb187, 2, none⟩ = some (.slice A0_2 l0_2.length c0_2) := (blk_cell BK187.out 2).trans rfl; have hfz8_0 := blk_frozen BK187.out 0; have hfz8_1 := blk_frozen BK187.out 1; have hfz8_2 := blk_frozen BK187.out 2; have hnb9 := NB189_188.out; have hnc9 := NB188_189.out; have hcz10_0 : w5.cell? ⟨gb189, 0, none⟩ = some (.int .i64 0) := (blk_cell BK189.out 0).trans rfl; have hcz10_1 : w5.cell? ⟨gb189, 1, none⟩ = some (.int .i64 0) := (blk_cell BK189.out 1).trans rfl; have hcz10_2 : w5.cell? ⟨gb189, 2, none⟩ = some (.slice none 0 0) := (blk_cell BK189.out 2).trans rfl; have hfz10_0 := blk_frozen BK189.out 0; have hfz10_1 := blk_frozen BK189.out 1; have hfz10_2 := blk_frozen BK189.out 2) | ((with_reducible refine gate_callee (f := 43) rfl ?_); refine goesL_ (some 12) rfl rfl Tryd.func43 (by kernel_rfl) rfl #[.slice A0_2 l0_2.length c0_2] rfl (by (try simp only [List.map_toArray, List.map_cons, List.map_nil]); first | done | rfl | (simp only [List.length_drop, List.length_take]; rfl)) ?_; (with_reducible refine (laws_toInt64SS.calls k _ _ l0_2 t190 _ ?side1 ?side2 A2.out).mono ?_); (case side1 => exact Kd.C_below HR0_2.out (by repeat (first | (with_reducible first | exact HB.out | apply ba_ | apply bn_ | apply bd_ | refine below_set ?_ GE187.out | refine below_set ?_ GE188.out | refine below_set ?_ GE189.out) | exact HB.out))); (case side2 => exact HC0_2.out); rintro e w11 ⟨v191, rfl, ho0, hb⟩; refine ⟨_, rfl, ?_⟩; have n0_ := A0_ (Kd.S_lower ho0 (below_size (by repeat (first | (with_reducible first | exact HB.out | apply ba_ | apply bn_ | apply bd_ | refine below_set ?_ GE187.out | refine below_set ?_ GE188.out | refine below_set ?_ GE189.out) | exact HB.out)))); have n1_ := A0_ (blk_below (g := gb187) (o := .cells #[.int .i64 a0_0, .int .i64 a0_1, .slice A0_2 l0_2.length c0_2] 24 (0, 0)) (by (with_reducible repeat (first | apply gn_ | apply gd_ | apply ga_)); refine blk_far ?_ NB187_189.out _; (with_reducible repeat (first | apply gn_ | apply gd_ | apply ga_)); refine blk_far ?_ NB187_189.out _; (with_reducible repeat (first | apply gn_ | apply gd_ | apply ga_)); exact BK187.out) hb); have n2_ := A0_ (blk_below (g := gb188) (o := .cells #[.int .i64 0, .int .i64 0, .slice none 0 0] 28 (0, 0)) (by (with_reducible repeat (first | apply gn_ | apply gd_ | apply ga_)); refine blk_far ?_ NB188_189.out _; (with_reducible repeat (first | apply gn_ | apply gd_ | apply ga_)); refine blk_far ?_ NB188_189.out _; (with_reducible repeat (first | apply gn_ | apply gd_ | apply ga_)); exact BK188.out) hb); have n3_ := A0_ (blk_below (g := gb189) (o := .cells #[.int .i64 a0_0, .int .i64 a0_1, .slice none 0 0] 28 (0, 0)) (by (with_reducible repeat (first | apply gn_ | apply gd_ | apply ga_)); refine blk_put (cs := #[.int .i64 a0_0, .int .i64 0, .slice none 0 0]) ?_ 1 _ rfl; (with_reducible repeat (first | apply gn_ | apply gd_ | apply ga_)); refine blk_put (cs := #[.int .i64 0, .int .i64 0, .slice none 0 0]) ?_ 0 _ rfl; (with_reducible repeat (first | apply gn_ | apply gd_ | apply ga_)); exact BK189.out) hb); have n4_ := A0_ (below_step (by repeat (first | (with_reducible first | exact HB.out | apply ba_ | apply bn_ | apply bd_ | refine below_set ?_ GE187.out | refine below_set ?_ GE188.out | refine below_set ?_ GE189.out) | exact HB.out)) hb); clear BK187; clear BK188; clear BK189; clear HB; have HO192 := n0_; have BK187 := n1_; have BK188 := n2_; have BK189 := n3_; have HB := n4_; clear n0_ n1_ n2_ n3_ n4_; (try clear hb); (try clear hb2); (try clear hk); (try clear hi); (try clear ho0); refine Stop0.out ?_))); (refine Stop0.mk ?_); (have H := H0_.out); clear H0_; (simp only [Option.some.injEq, Prod.mk.injEq] at H); (obtain ⟨rfl, rfl, rfl⟩ := H); (obtain ⟨Ao12, co12, eo12⟩ := Kd.S_slice HO192.out); subst eo12; (have hnb13 := NB189_187.out); (have hnc13 := NB187_189.out); (have hnb14 := NB189_188.out); (have hnc14 := NB188_189.out); (have hcz15_0 : w11.cell? ⟨gb189, 0, none⟩ = some (.int .i64 a0_0) := (blk_cell BK189.out 0).trans rfl); (have hcz15_1 : w11.cell? ⟨gb189, 1, none⟩ = some (.int .i64 a0_1) := (blk_cell BK189.out 1).trans rfl); (have hcz15_2 : w11.cell? ⟨gb189, 2, none⟩ = some (.slice none 0 0) := (blk_cell BK189.out 2).trans rfl); (have hfz15_0 := blk_frozen BK189.out 0); (have hfz15_1 := blk_frozen BK189.out 1); (have hfz15_2 := blk_frozen BK189.out 2); (have hnb16 := NB188_187.out); (have hnc16 := NB187_188.out); (have hcz17_0 : w11.cell? ⟨gb188, 0, none⟩ = some (.int .i64 0) := (blk_cell BK188.out 0).trans rfl); (have hcz17_1 : w11.cell? ⟨gb188, 1, none⟩ = some (.int .i64 0) := (blk_cell BK188.out 1).trans rfl); (have hcz17_2 : w11.cell? ⟨gb188, 2, none⟩ = some (.slice none 0 0) := (blk_cell BK188.out 2).trans rfl); (have hfz17_0 := blk_frozen BK188.out 0); (have hfz17_1 := blk_frozen BK188.out 1); (have hfz17_2 := blk_frozen BK188.out 2); go_wp2; (refine bodyPost_ret (results_cell_row rfl _ _ gb188 28 #[.int .i64 a0_0, .int .i64 a0_1, .slice Ao12 t190.length co12] (0, 0) _ rfl (by (with_reducible repeat (first | apply gn_ | apply gd_ | apply ga_)); refine blk_put (cs := #[.int .i64 a0_0, .int .i64 a0_1, .slice none 0 0]) ?_ 2 _ rfl; (with_reducible repeat (first | apply gn_ | apply gd_ | apply ga_)); refine blk_put (cs := #[.int .i64 a0_0, .int .i64 0, .slice none 0 0]) ?_ 1 _ rfl; (with_reducible repeat (first | apply gn_ | apply gd_ | apply ga_)); refine blk_put (cs := #[.int .i64 0, .int .i64 0, .slice none 0 0]) ?_ 0 _ rfl; (with_reducible repeat (first | apply gn_ | apply gd_ | apply ga_)); refine blk_far ?_ NB188_189.out _; (with_reducible repeat (first | apply gn_ | apply gd_ | apply ga_)); exact BK188.out) Tryd.underlying28 rfl (by kernel_rfl)) rfl ?_)
 exact ⟨_, by first | rfl | (simp [errW_none, errW_some] <;> rfl) | (simp [*, errW_none, errW_some] <;> rfl), by (with_reducible repeat (first | apply Kd.S_alloc | apply Kd.S_drewN | apply Kd.S_drew)); exact Kd.S_mono (Kd.S_far (p := ⟨gb188, 2, none⟩) (Kd.S_far (p := ⟨gb188, 1, none⟩) (Kd.S_far (p := ⟨gb188, 0, none⟩) (Kd.S_far (p := ⟨gb189, 2, none⟩) (Kd.S_types (Kd.S_types HO192.out BK189.out (by decide)) BK188.out (by decide)) (fun _ hk => hk.1.2) (.slice Ao12 t190.length co12)) (fun _ hk => hk.2) (.int .i64 a0_0)) (fun _ hk => hk.2) (.int .i64 a0_1)) (fun _ hk => hk.2) (.slice Ao12 t190.length co12)) (fun _ hk => trivial), by repeat (first | (with_reducible first | exact HB.out | apply ba_ | apply bn_ | apply bd_ | refine below_set ?_ GE187.out | refine below_set ?_ GE188.out | refine below_set ?_ GE189.out) | exact HB.out)⟩
end Go.Proofs.YtoglcgnbkibpgaaDoor.A

namespace Go.Proofs.YtoglcgnbkibpgaaDoor.A
open Go.RowKit Go.Proofs.YtoglcgnbkibpgaaDoorW.PrintWords Go.Proofs.YtoglcgnbkibpgaaDoorW.PrintLast Go.Proofs.YtoglcgnbkibpgaaDoorW.PrintMore
attribute [local go_sem] max2_int min2_int max_two min_two max_three min_three max_four min_four   -- for this text's walks alone
set_option linter.unusedVariables false
set_option linter.unusedSimpArgs false
def laws_eqInt64S.l0 : Nat → List Int → List Int → Int → Option (Bool)
  | 0, _, _, _ => none
  | k + 1, x0, x1, x5 => if x5 < (x0.length : Int) then (if 0 ≤ x5 then (if x5 < (x1.length : Int) then (if (rd x0 x5) = (rd x1 x5) then (laws_eqInt64S.l0 k x0 x1 (wrap64 (x5 + 1))) else (some false)) else (none)) else (none)) else (some true)
def laws_eqInt64S.f (k : Nat) (l0 : List Int) (l1 : List Int) : Option (Bool) := if (l0.length : Int) = (l1.length : Int) then (laws_eqInt64S.l0 k l0 l1 0) else (some false)
set_option maxHeartbeats 8000000 in
set_option maxRecDepth 100000 in
theorem laws_eqInt64S.calls (k : Nat) (A0 : Option Addr) (c0 : Nat) (l0 : List Int) (A1 : Option Addr) (c1 : Nat) (l1 : List Int) (r : Bool) (w : World) (hr0 : Kd.C (Kd.int .i64) w A0 l0.length l0) (hc0 : l0.length ≤ c0) (hr1 : Kd.C (Kd.int .i64) w A1 l1.length l1) (hc1 : l1.length ≤ c1) (h : laws_eqInt64S.f k l0 l1 = some r) :
    Calls Tryd.prog 19 #[.slice A0 l0.length c0, .slice A1 l1.length c1] w fun e w' => e = .returned (.bool r) ∧ Drawn0 w w' := by
 (have HR0 := A0_ hr0); (have HC0 := A0_ hc0); clear hr0 hc0; (have HR1 := A0_ hr1); (have HC1 := A0_ hc1); clear hr1 hc1; (have H : (if (l0.length : Int) = (l1.length : Int) then (laws_eqInt64S.l0 k l0 l1 0) else (some false)) = some r := h); clear h; (by_cases c3 : (l0.length : Int) = (l1.length : Int))
 ·(rw [if_pos c3] at H); (have c3b0 : ((l0.length : Int) == (l1.length : Int)) = true := beq_iff_eq.mpr c3); (have c3b1 : ((l0.length : Int) != (l1.length : Int)) = false := bne_eq_false_iff_eq.mpr c3); (have c3b2 : (l0.length == l1.length) = true := by first | simpa using c3 | (simp at c3 ⊢; omega)); clear c3; (have H' := A0_ H); clear H; (go_enter Tryd.func19, Tryd.ntmps19); go_wp2; (repeat (go_quiet (fail); try go_wp2))
  go_loopg [5] k (fun kq v5 w' => ∃ (x5_1 : Int), v5 = .int .i64 x5_1 ∧ Aside0 (laws_eqInt64S.l0 kq l0 l1 x5_1 = some r) ∧ Aside0 (kq ≤ k) ∧ Drawn0 w w')
  case atStart => exact ⟨(0), (by first | rfl | (simp; done) | (simp [*]; done)), H', ⟨Nat.le_refl _⟩, by repeat (first | exact Drawn0.refl _ | apply Drawn0.step)⟩
  case round =>
   clear H'; (try clear c1); (try clear p2); (try clear c3); (try clear c3b0); (try clear c3b1); (try clear c3b2); (obtain ⟨x5_1, rfl, HA, HK1, ⟨m1, rfl⟩⟩ := hrel)
   cases gk with
   | zero => exact absurd HA.out (by simp [laws_eqInt64S.l0])
   | succ k1 =>
    (have H := HA.out); clear HA; (simp only [laws_eqInt64S.l0] at H); (by_cases c4 : x5_1 < (l0.length : Int))
    ·(rw [if_pos c4] at H); (have c4b0 : decide (x5_1 < (l0.length : Int)) = true := decide_eq_true c4); clear c4; (by_cases c5 : 0 ≤ x5_1)
     ·(rw [if_pos c5] at H); (have c5b0 : decide (0 ≤ x5_1) = true := decide_eq_true c5); clear c5; (by_cases c6 : x5_1 < (l1.length : Int))
      ·(rw [if_pos c6] at H); (have c6b0 : decide (x5_1 < (l1.length : Int)) = true := decide_eq_true c6); clear c6; (by_cases c7 : (rd l0 x5_1) = (rd l1 x5_1))
       ·(rw [if_pos c7] at H); (have c7b0 : ((rd l0 x5_1) == (rd l1 x5_1)) = true := beq_iff_eq.mpr c7); (have c7b1 : ((rd l0 x5_1) != (rd l1 x5_1)) = false := bne_eq_false_iff_eq.mpr c7); clear c7; (have H' := A0_ H); clear H; (have p198 : 0 ≤ (x5_1 : Int) := of_decide_eq_true (by first | (with_reducible assumption) | assumption)); (have q198 : x5_1 < (l0.length : Int) := of_decide_eq_true (by first | (with_reducible assumption) | assumption)); (obtain ⟨ad198, e198, hx198_0⟩ := Kd.at_int HR0.out x5_1 p198 q198); (cases e198); (replace p198 := eq_true p198); (replace q198 := eq_true q198); (have p199 : 0 ≤ (x5_1 : Int) := of_decide_eq_true (by first | (with_reducible assumption) | assumption)); (have q199 : x5_1 < (l1.length : Int) := of_decide_eq_true (by first | (with_reducible assumption) | assumption)); (obtain ⟨ad199, e199, hx199_0⟩ := Kd.at_int HR1.out x5_1 p199 q199); (cases e199); (replace p199 := eq_true p199); (replace q199 := eq_true q199); go_wp2; (repeat (go_quiet (fail); try go_wp2)); (go_roundg k1)
        case measure => have := HK1.out; omega
        case rel => exact ⟨(wrap64 (x5_1 + 1)), (by first | rfl | (simp; done) | (simp [*]; done)), H', ⟨by have := HK1.out; omega⟩, by repeat (first | exact Drawn0.refl _ | apply Drawn0.step)⟩
       ·(rw [if_neg c7] at H); (have c7b0 : ((rd l0 x5_1) == (rd l1 x5_1)) = false := beq_eq_false_iff_ne.mpr c7); (have c7b1 : ((rd l0 x5_1) != (rd l1 x5_1)) = true := bne_iff_ne.mpr c7); (obtain rfl := Option.some.inj H); (have p198 : 0 ≤ (x5_1 : Int) := of_decide_eq_true (by first | (with_reducible assumption) | assumption)); (have q198 : x5_1 < (l0.length : Int) := of_decide_eq_true (by first | (with_reducible assumption) | assumption)); (obtain ⟨ad198, e198, hx198_0⟩ := Kd.at_int HR0.out x5_1 p198 q198); (cases e198); (replace p198 := eq_true p198); (replace q198 := eq_true q198); (have p199 : 0 ≤ (x5_1 : Int) := of_decide_eq_true (by first | (with_reducible assumption) | assumption)); (have q199 : x5_1 < (l1.length : Int) := of_decide_eq_true (by first | (with_reducible assumption) | assumption)); (obtain ⟨ad199, e199, hx199_0⟩ := Kd.at_int HR1.out x5_1 p199 q199); (cases e199); (replace p199 := eq_true p199); (replace q199 := eq_true q199); go_wp2; (repeat (go_quiet (fail); try go_wp2)); go_ret; (exact ⟨by first | rfl | (simp; done) | (simp [*]; done), by repeat (first | exact Drawn0.refl _ | apply Drawn0.step)⟩)
      ·(rw [if_neg c6] at H); (exact absurd H (by simp))
     ·(rw [if_neg c5] at H); (exact absurd H (by simp))
    ·(rw [if_neg c4] at H); (have c4b0 : decide (x5_1 < (l0.length : Int)) = false := decide_eq_false c4); clear c4; (obtain rfl := Option.some.inj H); go_wp2; (repeat (go_quiet (fail); try go_wp2)); go_ret; (exact ⟨by first | rfl | (simp; done) | (simp [*]; done), by repeat (first | exact Drawn0.refl _ | apply Drawn0.step)⟩)
 ·(rw [if_neg c3] at H); (have c3b0 : ((l0.length : Int) == (l1.length : Int)) = false := beq_eq_false_iff_ne.mpr c3); (have c3b1 : ((l0.length : Int) != (l1.length : Int)) = true := bne_iff_ne.mpr c3); (have c3b2 : (l0.length == l1.length) = false := by first | simpa using c3 | (simp at c3 ⊢; omega)); (obtain rfl := Option.some.inj H); (go_enter Tryd.func19, Tryd.ntmps19); go_wp2; (repeat (go_quiet (fail); try go_wp2)); go_ret; (exact ⟨by first | rfl | (simp; done) | (simp [*]; done), by repeat (first | exact Drawn0.refl _ | apply Drawn0.step)⟩)
end Go.Proofs.YtoglcgnbkibpgaaDoor.A

namespace Go.Proofs.YtoglcgnbkibpgaaDoor.A
open Go.RowKit Go.Proofs.YtoglcgnbkibpgaaDoorW.PrintWords Go.Proofs.YtoglcgnbkibpgaaDoorW.PrintLast Go.Proofs.YtoglcgnbkibpgaaDoorW.PrintMore
attribute [local go_sem] max2_int min2_int max_two min_two max_three min_three max_four min_four   -- for this text's walks alone
set_option linter.unusedVariables false
set_option linter.unusedSimpArgs false
def laws_eqInt64SS.l0 : Nat → List (List Int) → List (List Int) → Int → Option (Bool)
  | 0, _, _, _ => none
  | k + 1, x0, x1, x5 => if x5 < (x0.length : Int) then (if 0 ≤ x5 then (if x5 < (x1.length : Int) then ((laws_eqInt64S.f k (rd_L1 x0 x5) (rd_L1 x1 x5)).bind fun t202 => (if t202 = true then (laws_eqInt64SS.l0 k x0 x1 (wrap64 (x5 + 1))) else (some false))) else (none)) else (none)) else (some true)
def laws_eqInt64SS.f (k : Nat) (l0 : List (List Int)) (l1 : List (List Int)) : Option (Bool) := if (l0.length : Int) = (l1.length : Int) then (laws_eqInt64SS.l0 k l0 l1 0) else (some false)
set_option maxHeartbeats 8000000 in
set_option maxRecDepth 100000 in
theorem laws_eqInt64SS.calls (k : Nat) (A0 : Option Addr) (c0 : Nat) (l0 : List (List Int)) (A1 : Option Addr) (c1 : Nat) (l1 : List (List Int)) (r : Bool) (w : World) (hr0 : Kd.C (Kd.slice 2 (Kd.int .i64)) w A0 l0.length l0) (hc0 : l0.length ≤ c0) (hr1 : Kd.C (Kd.slice 2 (Kd.int .i64)) w A1 l1.length l1) (hc1 : l1.length ≤ c1) (h : laws_eqInt64SS.f k l0 l1 = some r) :
    Calls Tryd.prog 32 #[.slice A0 l0.length c0, .slice A1 l1.length c1] w fun e w' => e = .returned (.bool r) ∧ Drawn0 w w' := by
 (have HR0 := A0_ hr0); (have HC0 := A0_ hc0); clear hr0 hc0; (have HR1 := A0_ hr1); (have HC1 := A0_ hc1); clear hr1 hc1; (have H : (if (l0.length : Int) = (l1.length : Int) then (laws_eqInt64SS.l0 k l0 l1 0) else (some false)) = some r := h); clear h; (by_cases c3 : (l0.length : Int) = (l1.length : Int))
 ·(rw [if_pos c3] at H); (have c3b0 : ((l0.length : Int) == (l1.length : Int)) = true := beq_iff_eq.mpr c3); (have c3b1 : ((l0.length : Int) != (l1.length : Int)) = false := bne_eq_false_iff_eq.mpr c3); (have c3b2 : (l0.length == l1.length) = true := by first | simpa using c3 | (simp at c3 ⊢; omega)); clear c3; (have H' := A0_ H); clear H; (go_enter Tryd.func32, Tryd.ntmps32); go_wp2; (repeat (go_quiet (fail); try go_wp2))
  go_loopg [5] k (fun kq v5 w' => ∃ (x5_1 : Int), v5 = .int .i64 x5_1 ∧ Aside0 (laws_eqInt64SS.l0 kq l0 l1 x5_1 = some r) ∧ Aside0 (kq ≤ k) ∧ Drawn0 w w')
  case atStart => exact ⟨(0), (by first | rfl | (simp; done) | (simp [*]; done)), H', ⟨Nat.le_refl _⟩, by repeat (first | exact Drawn0.refl _ | apply Drawn0.step)⟩
  case round =>
   clear H'; (try clear c1); (try clear p2); (try clear c3); (try clear c3b0); (try clear c3b1); (try clear c3b2); (obtain ⟨x5_1, rfl, HA, HK1, ⟨m1, rfl⟩⟩ := hrel)
   cases gk with
   | zero => exact absurd HA.out (by simp [laws_eqInt64SS.l0])
   | succ k1 =>
    (have H := HA.out); clear HA; (simp only [laws_eqInt64SS.l0] at H); (by_cases c4 : x5_1 < (l0.length : Int))
    ·(rw [if_pos c4] at H); (have c4b0 : decide (x5_1 < (l0.length : Int)) = true := decide_eq_true c4); clear c4; (by_cases c5 : 0 ≤ x5_1)
     ·(rw [if_pos c5] at H); (have c5b0 : decide (0 ≤ x5_1) = true := decide_eq_true c5); clear c5; (by_cases c6 : x5_1 < (l1.length : Int))
      ·(rw [if_pos c6] at H); (have c6b0 : decide (x5_1 < (l1.length : Int)) = true := decide_eq_true c6); clear c6; (replace H := Option.bind_eq_some_iff.mp H); (obtain ⟨t202, A70, H⟩ := H); (try dsimp only at H); (have A7 := A0_ A70); clear A70; (by_cases c8 : t202 = true)
       ·subst c8; (have H1 := H); (rw [if_pos rfl] at H1); clear H; (have H := H1); clear H1; (have H' := A0_ H); clear H; (have p200 : 0 ≤ (x5_1 : Int) := of_decide_eq_true (by first | (with_reducible assumption) | assumption)); (have q200 : x5_1 < (l0.length : Int) := of_decide_eq_true (by first | (with_reducible assumption) | assumption)); (obtain ⟨ad200, A200_0, c200_0, e200, hx200_0, hl200_0, hi200_0⟩ := at_L1 HR0.out x5_1 p200 q200); (cases e200); (have HR200_0 := A0_ hi200_0); (have HC200_0 := A0_ hl200_0); clear hi200_0 hl200_0; (replace p200 := eq_true p200); (replace q200 := eq_true q200); (have p201 : 0 ≤ (x5_1 : Int) := of_decide_eq_true (by first | (with_reducible assumption) | assumption)); (have q201 : x5_1 < (l1.length : Int) := of_decide_eq_true (by first | (with_reducible assumption) | assumption)); (obtain ⟨ad201, A201_0, c201_0, e201, hx201_0, hl201_0, hi201_0⟩ := at_L1 HR1.out x5_1 p201 q201); (cases e201); (have HR201_0 := A0_ hi201_0); (have HC201_0 := A0_ hl201_0); clear hi201_0 hl201_0; (replace p201 := eq_true p201); (replace q201 := eq_true q201); (go_wp2_with (first | (go_at_call 19; (with_reducible refine (laws_eqInt64S.calls k1 _ _ (rd_L1 l0 x5_1) _ _ (rd_L1 l1 x5_1) true _ ?side1 ?side2 ?side3 ?side4 A7.out).mono ?_); (case side1 => repeat (first | exact HR200_0.out | (with_reducible refine Kd.C_alloc ?_ _) | (with_reducible refine Kd.C_drewN ?_ _) | (with_reducible refine Kd.C_drew ?_))); (case side2 => exact HC200_0.out); (case side3 => repeat (first | exact HR201_0.out | (with_reducible refine Kd.C_alloc ?_ _) | (with_reducible refine Kd.C_drewN ?_ _) | (with_reducible refine Kd.C_drew ?_))); (case side4 => exact HC201_0.out); rintro e w' ⟨rfl, ⟨nd, rfl⟩⟩; (try first | exact ⟨rfl, _, World.drewN_drewN _ _ _⟩ | exact ⟨rfl, _, Eq.trans (World.drewN_drewN _ _ _) (congrArg (World.drewN _) (Nat.add_assoc _ _ _))⟩)))); (repeat (go_quiet (first | (go_at_call 19; (with_reducible refine (laws_eqInt64S.calls k1 _ _ (rd_L1 l0 x5_1) _ _ (rd_L1 l1 x5_1) true _ ?side1 ?side2 ?side3 ?side4 A7.out).mono ?_); (case side1 => repeat (first | exact HR200_0.out | (with_reducible refine Kd.C_alloc ?_ _) | (with_reducible refine Kd.C_drewN ?_ _) | (with_reducible refine Kd.C_drew ?_))); (case side2 => exact HC200_0.out); (case side3 => repeat (first | exact HR201_0.out | (with_reducible refine Kd.C_alloc ?_ _) | (with_reducible refine Kd.C_drewN ?_ _) | (with_reducible refine Kd.C_drew ?_))); (case side4 => exact HC201_0.out); rintro e w' ⟨rfl, ⟨nd, rfl⟩⟩; (try first | exact ⟨rfl, _, World.drewN_drewN _ _ _⟩ | exact ⟨rfl, _, Eq.trans (World.drewN_drewN _ _ _) (congrArg (World.drewN _) (Nat.add_assoc _ _ _))⟩))); try go_wp2_with (first | (go_at_call 19; (with_reducible refine (laws_eqInt64S.calls k1 _ _ (rd_L1 l0 x5_1) _ _ (rd_L1 l1 x5_1) true _ ?side1 ?side2 ?side3 ?side4 A7.out).mono ?_); (case side1 => repeat (first | exact HR200_0.out | (with_reducible refine Kd.C_alloc ?_ _) | (with_reducible refine Kd.C_drewN ?_ _) | (with_reducible refine Kd.C_drew ?_))); (case side2 => exact HC200_0.out); (case side3 => repeat (first | exact HR201_0.out | (with_reducible refine Kd.C_alloc ?_ _) | (with_reducible refine Kd.C_drewN ?_ _) | (with_reducible refine Kd.C_drew ?_))); (case side4 => exact HC201_0.out); rintro e w' ⟨rfl, ⟨nd, rfl⟩⟩; (try first | exact ⟨rfl, _, World.drewN_drewN _ _ _⟩ | exact ⟨rfl, _, Eq.trans (World.drewN_drewN _ _ _) (congrArg (World.drewN _) (Nat.add_assoc _ _ _))⟩))))); (go_roundg k1)
        case measure => have := HK1.out; omega
        case rel => exact ⟨(wrap64 (x5_1 + 1)), (by first | rfl | (simp; done) | (simp [*]; done)), H', ⟨by have := HK1.out; omega⟩, by repeat (first | exact Drawn0.refl _ | apply Drawn0.step)⟩
       ·(replace c8 := Bool.eq_false_iff.mpr c8); subst c8; (have H1 : (some false) = some r := by rw [if_neg (show ¬ (false = true) by decide)] at H; exact H); clear H; (have H := H1); clear H1; (obtain rfl := Option.some.inj H); (have p200 : 0 ≤ (x5_1 : Int) := of_decide_eq_true (by first | (with_reducible assumption) | assumption)); (have q200 : x5_1 < (l0.length : Int) := of_decide_eq_true (by first | (with_reducible assumption) | assumption)); (obtain ⟨ad200, A200_0, c200_0, e200, hx200_0, hl200_0, hi200_0⟩ := at_L1 HR0.out x5_1 p200 q200); (cases e200); (have HR200_0 := A0_ hi200_0); (have HC200_0 := A0_ hl200_0); clear hi200_0 hl200_0; (replace p200 := eq_true p200); (replace q200 := eq_true q200); (have p201 : 0 ≤ (x5_1 : Int) := of_decide_eq_true (by first | (with_reducible assumption) | assumption)); (have q201 : x5_1 < (l1.length : Int) := of_decide_eq_true (by first | (with_reducible assumption) | assumption)); (obtain ⟨ad201, A201_0, c201_0, e201, hx201_0, hl201_0, hi201_0⟩ := at_L1 HR1.out x5_1 p201 q201); (cases e201); (have HR201_0 := A0_ hi201_0); (have HC201_0 := A0_ hl201_0); clear hi201_0 hl201_0; (replace p201 := eq_true p201); (replace q201 := eq_true q201); (go_wp2_with (first | (go_at_call 19; (with_reducible refine (laws_eqInt64S.calls k1 _ _ (rd_L1 l0 x5_1) _ _ (rd_L1 l1 x5_1) false _ ?side1 ?side2 ?side3 ?side4 A7.out).mono ?_); (case side1 => repeat (first | exact HR200_0.out | (with_reducible refine Kd.C_alloc ?_ _) | (with_reducible refine Kd.C_drewN ?_ _) | (with_reducible refine Kd.C_drew ?_))); (case side2 => exact HC200_0.out); (case side3 => repeat (first | exact HR201_0.out | (with_reducible refine Kd.C_alloc ?_ _) | (with_reducible refine Kd.C_drewN ?_ _) | (with_reducible refine Kd.C_drew ?_))); (case side4 => exact HC201_0.out); rintro e w' ⟨rfl, ⟨nd, rfl⟩⟩; (try first | exact ⟨rfl, _, World.drewN_drewN _ _ _⟩ | exact ⟨rfl, _, Eq.trans (World.drewN_drewN _ _ _) (congrArg (World.drewN _) (Nat.add_assoc _ _ _))⟩)))); (repeat (go_quiet (first | (go_at_call 19; (with_reducible refine (laws_eqInt64S.calls k1 _ _ (rd_L1 l0 x5_1) _ _ (rd_L1 l1 x5_1) false _ ?side1 ?side2 ?side3 ?side4 A7.out).mono ?_); (case side1 => repeat (first | exact HR200_0.out | (with_reducible refine Kd.C_alloc ?_ _) | (with_reducible refine Kd.C_drewN ?_ _) | (with_reducible refine Kd.C_drew ?_))); (case side2 => exact HC200_0.out); (case side3 => repeat (first | exact HR201_0.out | (with_reducible refine Kd.C_alloc ?_ _) | (with_reducible refine Kd.C_drewN ?_ _) | (with_reducible refine Kd.C_drew ?_))); (case side4 => exact HC201_0.out); rintro e w' ⟨rfl, ⟨nd, rfl⟩⟩; (try first | exact ⟨rfl, _, World.drewN_drewN _ _ _⟩ | exact ⟨rfl, _, Eq.trans (World.drewN_drewN _ _ _) (congrArg (World.drewN _) (Nat.add_assoc _ _ _))⟩))); try go_wp2_with (first | (go_at_call 19; (with_reducible refine (laws_eqInt64S.calls k1 _ _ (rd_L1 l0 x5_1) _ _ (rd_L1 l1 x5_1) false _ ?side1 ?side2 ?side3 ?side4 A7.out).mono ?_); (case side1 => repeat (first | exact HR200_0.out | (with_reducible refine Kd.C_alloc ?_ _) | (with_reducible refine Kd.C_drewN ?_ _) | (with_reducible refine Kd.C_drew ?_))); (case side2 => exact HC200_0.out); (case side3 => repeat (first | exact HR201_0.out | (with_reducible refine Kd.C_alloc ?_ _) | (with_reducible refine Kd.C_drewN ?_ _) | (with_reducible refine Kd.C_drew ?_))); (case side4 => exact HC201_0.out); rintro e w' ⟨rfl, ⟨nd, rfl⟩⟩; (try first | exact ⟨rfl, _, World.drewN_drewN _ _ _⟩ | exact ⟨rfl, _, Eq.trans (World.drewN_drewN _ _ _) (congrArg (World.drewN _) (Nat.add_assoc _ _ _))⟩))))); go_ret; (exact ⟨by first | rfl | (simp; done) | (simp [*]; done), by repeat (first | exact Drawn0.refl _ | apply Drawn0.step)⟩)
      ·(rw [if_neg c6] at H); (exact absurd H (by simp))
     ·(rw [if_neg c5] at H); (exact absurd H (by simp))
    ·(rw [if_neg c4] at H); (have c4b0 : decide (x5_1 < (l0.length : Int)) = false := decide_eq_false c4); clear c4; (obtain rfl := Option.some.inj H); go_wp2; (repeat (go_quiet (fail); try go_wp2)); go_ret; (exact ⟨by first | rfl | (simp; done) | (simp [*]; done), by repeat (first | exact Drawn0.refl _ | apply Drawn0.step)⟩)
 ·(rw [if_neg c3] at H); (have c3b0 : ((l0.length : Int) == (l1.length : Int)) = false := beq_eq_false_iff_ne.mpr c3); (have c3b1 : ((l0.length : Int) != (l1.length : Int)) = true := bne_iff_ne.mpr c3); (have c3b2 : (l0.length == l1.length) = false := by first | simpa using c3 | (simp at c3 ⊢; omega)); (obtain rfl := Option.some.inj H); (go_enter Tryd.func32, Tryd.ntmps32); go_wp2; (repeat (go_quiet (fail); try go_wp2)); go_ret; (exact ⟨by first | rfl | (simp; done) | (simp [*]; done), by repeat (first | exact Drawn0.refl _ | apply Drawn0.step)⟩)
end Go.Proofs.YtoglcgnbkibpgaaDoor.A

namespace Go.Proofs.YtoglcgnbkibpgaaDoor.A
open Go.RowKit Go.Proofs.YtoglcgnbkibpgaaDoorW.PrintWords Go.Proofs.YtoglcgnbkibpgaaDoorW.PrintLast Go.Proofs.YtoglcgnbkibpgaaDoorW.PrintMore
attribute [local go_sem] max2_int min2_int max_two min_two max_three min_three max_four min_four   -- for this text's walks alone
set_option linter.unusedVariables false
set_option linter.unusedSimpArgs false
def laws_eqCover.f (k : Nat) (a0_0 : Int) (a0_1 : Int) (l0_2 : List (List Int)) (a1_0 : Int) (a1_1 : Int) (l1_2 : List (List Int)) : Option (Bool) := if a0_0 = a1_0 then (if a0_1 = a1_1 then ((laws_eqInt64SS.f k l0_2 l1_2).bind fun t205 => (if t205 = true then (some true) else (some false))) else (some false)) else (some false)
set_option maxHeartbeats 8000000 in
set_option maxRecDepth 100000 in
theorem laws_eqCover.calls (k : Nat) (a0_0 : Int) (a0_1 : Int) (A0_2 : Option Addr) (c0_2 : Nat) (l0_2 : List (List Int)) (a1_0 : Int) (a1_1 : Int) (A1_2 : Option Addr) (c1_2 : Nat) (l1_2 : List (List Int)) (r : Bool) (w : World) (hr0_2 : Kd.C (Kd.slice 2 (Kd.int .i64)) w A0_2 l0_2.length l0_2) (hc0_2 : l0_2.length ≤ c0_2) (hr1_2 : Kd.C (Kd.slice 2 (Kd.int .i64)) w A1_2 l1_2.length l1_2) (hc1_2 : l1_2.length ≤ c1_2) (h : laws_eqCover.f k a0_0 a0_1 l0_2 a1_0 a1_1 l1_2 = some r) :
    Calls Tryd.prog 14 #[.agg #[.int .i64 a0_0, .int .i64 a0_1, .slice A0_2 l0_2.length c0_2], .agg #[.int .i64 a1_0, .int .i64 a1_1, .slice A1_2 l1_2.length c1_2]] w fun e w' => e = .returned (.bool r) ∧ Below w.heap.size w w' := by
 (have hu28 := Tryd.underlying28); (have HR0_2 := A0_ hr0_2); (have HC0_2 := A0_ hc0_2); clear hr0_2 hc0_2; (have HR1_2 := A0_ hr1_2); (have HC1_2 := A0_ hc1_2); clear hr1_2 hc1_2; (have HB := A0_ (Below.refl w.heap.size w))
 have H : (if a0_0 = a1_0 then (if a0_1 = a1_1 then ((laws_eqInt64SS.f k l0_2 l1_2).bind fun t205 => (if t205 = true then (some true) else (some false))) else (some false)) else (some false)) = some r := h
 clear h; (by_cases c3 : a0_0 = a1_0)
 ·(rw [if_pos c3] at H); (have c3b0 : (a0_0 == a1_0) = true := beq_iff_eq.mpr c3); (have c3b1 : (a0_0 != a1_0) = false := bne_eq_false_iff_eq.mpr c3); clear c3; (by_cases c4 : a0_1 = a1_1)
  ·(rw [if_pos c4] at H); (have c4b0 : (a0_1 == a1_1) = true := beq_iff_eq.mpr c4); (have c4b1 : (a0_1 != a1_1) = false := bne_eq_false_iff_eq.mpr c4); clear c4; (replace H := Option.bind_eq_some_iff.mp H); (obtain ⟨t205, A50, H⟩ := H); (try dsimp only at H); (have A5 := A0_ A50); clear A50; (have H0_ := A0_ H); clear H; (go_enter Tryd.func14, Tryd.ntmps14); (go_wp2_with (first | ((with_reducible refine gate_dst (N := 2) rfl ?_); refine box_event ?hg (N := 2) ?hd (cs := #[.int .i64 a0_0, .int .i64 a0_1, .slice A0_2 l0_2.length c0_2]) (t := 28) ?hr ?_; (case hd => rfl); (case hg => rfl); (case hr => first | (go_simp; done) | (go_simp; rfl)); intro gb203 hg w6 hbox hb; have n0_ := A0_ (below_step (by repeat (first | (with_reducible first | exact HB.out | apply ba_ | apply bn_ | apply bd_) | exact HB.out)) hb); have n1_ := A0_ (hbox); have n2_ := A0_ ((by rw [hg]; exact (below_size (by repeat (first | (with_reducible first | exact HB.out | apply ba_ | apply bn_ | apply bd_) | exact HB.out))) : w.heap.size ≤ gb203)); have n3_ := A0_ ((by rw [hg]; exact (below_size (by repeat (first | (with_reducible first | exact HB.out | apply ba_ | apply bn_ | apply bd_) | exact HB.out))) : w.heap.size ≤ gb203)); clear HB; have HB := n0_; have BK203 := n1_; have GW203 := n2_; have GE203 := n3_; clear n0_ n1_ n2_ n3_; clear hb hbox hg) | ((with_reducible refine gate_dst (N := 3) rfl ?_); refine box_event ?hg (N := 3) ?hd (cs := #[.int .i64 a1_0, .int .i64 a1_1, .slice A1_2 l1_2.length c1_2]) (t := 28) ?hr ?_; (case hd => rfl); (case hg => rfl); (case hr => first | (go_simp; done) | (go_simp; rfl)); intro gb204 hg w7 hbox hb; have n0_ := A0_ (blk_below (g := gb203) (o := .cells #[.int .i64 a0_0, .int .i64 a0_1, .slice A0_2 l0_2.length c0_2] 28 (0, 0)) (by (with_reducible repeat (first | apply gn_ | apply gd_ | apply ga_)); exact BK203.out) hb); have n1_ := A0_ (below_step (by repeat (first | (with_reducible first | exact HB.out | apply ba_ | apply bn_ | apply bd_ | refine below_set ?_ GE203.out) | exact HB.out)) hb); have n2_ := A0_ (hbox); have n3_ := A0_ ((by rw [hg]; exact (below_size (by repeat (first | (with_reducible first | exact HB.out | apply ba_ | apply bn_ | apply bd_ | refine below_set ?_ GE203.out) | exact HB.out))) : w.heap.size ≤ gb204)); have n4_ := A0_ ((by rw [hg]; exact (below_size (by repeat (first | (with_reducible first | exact HB.out | apply ba_ | apply bn_ | apply bd_ | refine below_set ?_ GE203.out) | exact HB.out))) : w.heap.size ≤ gb204)); have n5_ := A0_ ((by rw [hg]; exact Nat.ne_of_lt (blk_lt (g := gb203) (o := .cells #[.int .i64 a0_0, .int .i64 a0_1, .slice A0_2 l0_2.length c0_2] 28 (0, 0)) (by (with_reducible repeat (first | apply gn_ | apply gd_ | apply ga_)); exact BK203.out)) : gb203 ≠ gb204)); have n6_ := A0_ ((by rw [hg]; exact Nat.ne_of_gt (blk_lt (g := gb203) (o := .cells #[.int .i64 a0_0, .int .i64 a0_1, .slice A0_2 l0_2.length c0_2] 28 (0, 0)) (by (with_reducible repeat (first | apply gn_ | apply gd_ | apply ga_)); exact BK203.out)) : gb204 ≠ gb203)); clear BK203; clear HB; have BK203 := n0_; have HB := n1_; have BK204 := n2_; have GW204 := n3_; have GE204 := n4_; have NB203_204 := n5_; have NB204_203 := n6_; clear n0_ n1_ n2_ n3_ n4_ n5_ n6_; clear hb hbox hg; have hnb8 := NB203_204.out; have hnc8 := NB204_203.out; have hcz9_0 : w7.cell? ⟨gb203, 0, none⟩ = some (.int .i64 a0_0) := (blk_cell BK203.out 0).trans rfl; have hcz9_1 : w7.cell? ⟨gb203, 1, none⟩ = some (.int .i64 a0_1) := (blk_cell BK203.out 1).trans rfl; have hcz9_2 : w7.cell? ⟨gb203, 2, none⟩ = some (.slice A0_2 l0_2.length c0_2) := (blk_cell BK203.out 2).trans rfl; have hfz9_0 := blk_frozen BK203.out 0; have hfz9_1 := blk_frozen BK203.out 1; have hfz9_2 := blk_frozen BK203.out 2; have hcz10_0 : w7.cell? ⟨gb204, 0, none⟩ = some (.int .i64 a1_0) := (blk_cell BK204.out 0).trans rfl; have hcz10_1 : w7.cell? ⟨gb204, 1, none⟩ = some (.int .i64 a1_1) := (blk_cell BK204.out 1).trans rfl; have hcz10_2 : w7.cell? ⟨gb204, 2, none⟩ = some (.slice A1_2 l1_2.length c1_2) := (blk_cell BK204.out 2).trans rfl; have hfz10_0 := blk_frozen BK204.out 0; have hfz10_1 := blk_frozen BK204.out 1; have hfz10_2 := blk_frozen BK204.out 2) | ((with_reducible refine gate_callee (f := 32) rfl ?_); refine goesL_ (some 19) rfl rfl Tryd.func32 (by kernel_rfl) rfl #[.slice A0_2 l0_2.length c0_2, .slice A1_2 l1_2.length c1_2] rfl (by (try simp only [List.map_toArray, List.map_cons, List.map_nil]); first | done | rfl | (simp only [List.length_drop, List.length_take]; rfl)) ?_; (with_reducible refine (laws_eqInt64SS.calls k _ _ l0_2 _ _ l1_2 t205 _ ?side1 ?side2 ?side3 ?side4 A5.out).mono ?_); (case side1 => repeat (first | exact (Kd.C_below HR0_2.out HB.out) | (with_reducible refine Kd.C_alloc ?_ _) | (with_reducible refine Kd.C_drewN ?_ _) | (with_reducible refine Kd.C_drew ?_))); (case side2 => exact HC0_2.out); (case side3 => repeat (first | exact (Kd.C_below HR1_2.out HB.out) | (with_reducible refine Kd.C_alloc ?_ _) | (with_reducible refine Kd.C_drewN ?_ _) | (with_reducible refine Kd.C_drew ?_))); (case side4 => exact HC1_2.out); rintro e w' ⟨rfl, ⟨nd, rfl⟩⟩; refine ⟨_, rfl, ?_⟩; refine Stop0.out ?_))); (refine Stop0.mk ?_); (have H := H0_.out); clear H0_; (by_cases c11 : t205 = true)
   ·subst c11; (have H1 := H); (rw [if_pos rfl] at H1); clear H; (have H := H1); clear H1; (obtain rfl := Option.some.inj H); go_wp2; go_ret; (exact ⟨by first | rfl | (simp [errW_none, errW_some] <;> rfl) | (simp [*, errW_none, errW_some] <;> rfl), by repeat (first | (with_reducible first | exact HB.out | apply ba_ | apply bn_ | apply bd_ | refine below_set ?_ GE203.out | refine below_set ?_ GE204.out) | exact HB.out)⟩)
   ·(replace c11 := Bool.eq_false_iff.mpr c11); subst c11; (have H1 : (some false) = some r := by rw [if_neg (show ¬ (false = true) by decide)] at H; exact H); clear H; (have H := H1); clear H1; (obtain rfl := Option.some.inj H); go_wp2; go_ret; (exact ⟨by first | rfl | (simp [errW_none, errW_some] <;> rfl) | (simp [*, errW_none, errW_some] <;> rfl), by repeat (first | (with_reducible first | exact HB.out | apply ba_ | apply bn_ | apply bd_ | refine below_set ?_ GE203.out | refine below_set ?_ GE204.out) | exact HB.out)⟩)
  ·(rw [if_neg c4] at H); (have c4b0 : (a0_1 == a1_1) = false := beq_eq_false_iff_ne.mpr c4); (have c4b1 : (a0_1 != a1_1) = true := bne_iff_ne.mpr c4); (obtain rfl := Option.some.inj H); (go_enter Tryd.func14, Tryd.ntmps14); (go_wp2_with (first | ((with_reducible refine gate_dst (N := 2) rfl ?_); refine box_event ?hg (N := 2) ?hd (cs := #[.int .i64 a0_0, .int .i64 a0_1, .slice A0_2 l0_2.length c0_2]) (t := 28) ?hr ?_; (case hd => rfl); (case hg => rfl); (case hr => first | (go_simp; done) | (go_simp; rfl)); intro gb203 hg w12 hbox hb; have n0_ := A0_ (below_step (by repeat (first | (with_reducible first | exact HB.out | apply ba_ | apply bn_ | apply bd_) | exact HB.out)) hb); have n1_ := A0_ (hbox); have n2_ := A0_ ((by rw [hg]; exact (below_size (by repeat (first | (with_reducible first | exact HB.out | apply ba_ | apply bn_ | apply bd_) | exact HB.out))) : w.heap.size ≤ gb203)); have n3_ := A0_ ((by rw [hg]; exact (below_size (by repeat (first | (with_reducible first | exact HB.out | apply ba_ | apply bn_ | apply bd_) | exact HB.out))) : w.heap.size ≤ gb203)); clear HB; have HB := n0_; have BK203 := n1_; have GW203 := n2_; have GE203 := n3_; clear n0_ n1_ n2_ n3_; clear hb hbox hg) | ((with_reducible refine gate_dst (N := 3) rfl ?_); refine box_event ?hg (N := 3) ?hd (cs := #[.int .i64 a1_0, .int .i64 a1_1, .slice A1_2 l1_2.length c1_2]) (t := 28) ?hr ?_; (case hd => rfl); (case hg => rfl); (case hr => first | (go_simp; done) | (go_simp; rfl)); intro gb204 hg w13 hbox hb; have n0_ := A0_ (blk_below (g := gb203) (o := .cells #[.int .i64 a0_0, .int .i64 a0_1, .slice A0_2 l0_2.length c0_2] 28 (0, 0)) (by (with_reducible repeat (first | apply gn_ | apply gd_ | apply ga_)); exact BK203.out) hb); have n1_ := A0_ (below_step (by repeat (first | (with_reducible first | exact HB.out | apply ba_ | apply bn_ | apply bd_ | refine below_set ?_ GE203.out) | exact HB.out)) hb); have n2_ := A0_ (hbox); have n3_ := A0_ ((by rw [hg]; exact (below_size (by repeat (first | (with_reducible first | exact HB.out | apply ba_ | apply bn_ | apply bd_ | refine below_set ?_ GE203.out) | exact HB.out))) : w.heap.size ≤ gb204)); have n4_ := A0_ ((by rw [hg]; exact (below_size (by repeat (first | (with_reducible first | exact HB.out | apply ba_ | apply bn_ | apply bd_ | refine below_set ?_ GE203.out) | exact HB.out))) : w.heap.size ≤ gb204)); have n5_ := A0_ ((by rw [hg]; exact Nat.ne_of_lt (blk_lt (g := gb203) (o := .cells #[.int .i64 a0_0, .int .i64 a0_1, .slice A0_2 l0_2.length c0_2] 28 (0, 0)) (by (with_reducible repeat (first | apply gn_ | apply gd_ | apply ga_)); exact BK203.out)) : gb203 ≠ gb204)); have n6_ := A0_ ((by rw [hg]; exact Nat.ne_of_gt (blk_lt (g := gb203) (o := .cells #[.int .i64 a0_0, .int .i64 a0_1, .slice A0_2 l0_2.length c0_2] 28 (0, 0)) (by (with_reducible repeat (first | apply gn_ | apply gd_ | apply ga_)); exact BK203.out)) : gb204 ≠ gb203)); clear BK203; clear HB; have BK203 := n0_; have HB := n1_; have BK204 := n2_; have GW204 := n3_; have GE204 := n4_; have NB203_204 := n5_; have NB204_203 := n6_; clear n0_ n1_ n2_ n3_ n4_ n5_ n6_; clear hb hbox hg; have hnb14 := NB203_204.out; have hnc14 := NB204_203.out; have hcz15_0 : w13.cell? ⟨gb203, 0, none⟩ = some (.int .i64 a0_0) := (blk_cell BK203.out 0).trans rfl; have hcz15_1 : w13.cell? ⟨gb203, 1, none⟩ = some (.int .i64 a0_1) := (blk_cell BK203.out 1).trans rfl; have hcz15_2 : w13.cell? ⟨gb203, 2, none⟩ = some (.slice A0_2 l0_2.length c0_2) := (blk_cell BK203.out 2).trans rfl; have hfz15_0 := blk_frozen BK203.out 0; have hfz15_1 := blk_frozen BK203.out 1; have hfz15_2 := blk_frozen BK203.out 2; have hcz16_0 : w13.cell? ⟨gb204, 0, none⟩ = some (.int .i64 a1_0) := (blk_cell BK204.out 0).trans rfl; have hcz16_1 : w13.cell? ⟨gb204, 1, none⟩ = some (.int .i64 a1_1) := (blk_cell BK204.out 1).trans rfl; have hcz16_2 : w13.cell? ⟨gb204, 2, none⟩ = some (.slice A1_2 l1_2.length c1_2) := (blk_cell BK204.out 2).trans rfl; have hfz16_0 := blk_frozen BK204.out 0; have hfz16_1 := blk_frozen BK204.out 1; have hfz16_2 := blk_frozen BK204.out 2))); go_ret; (exact ⟨by first | rfl | (simp [errW_none, errW_some] <;> rfl) | (simp [*, errW_none, errW_some] <;> rfl), by repeat (first | (with_reducible first | exact HB.out | apply ba_ | apply bn_ | apply bd_ | refine below_set ?_ GE203.out | refine below_set ?_ GE204.out) | exact HB.out)⟩)
 ·(rw [if_neg c3] at H); (have c3b0 : (a0_0 == a1_0) = false := beq_eq_false_iff_ne.mpr c3); (have c3b1 : (a0_0 != a1_0) = true := bne_iff_ne.mpr c3); (obtain rfl := Option.some.inj H); (go_enter Tryd.func14, Tryd.ntmps14); (go_wp2_with (first | ((with_reducible refine gate_dst (N := 2) rfl ?_); refine box_event ?hg (N := 2) ?hd (cs := #[.int .i64 a0_0, .int .i64 a0_1, .slice A0_2 l0_2.length c0_2]) (t := 28) ?hr ?_; (case hd => rfl); (case hg => rfl); (case hr => first | (go_simp; done) | (go_simp; rfl)); intro gb203 hg w17 hbox hb; have n0_ := A0_ (below_step (by repeat (first | (with_reducible first | exact HB.out | apply ba_ | apply bn_ | apply bd_) | exact HB.out)) hb); have n1_ := A0_ (hbox); have n2_ := A0_ ((by rw [hg]; exact (below_size (by repeat (first | (with_reducible first | exact HB.out | apply ba_ | apply bn_ | apply bd_) | exact HB.out))) : w.heap.size ≤ gb203)); have n3_ := A0_ ((by rw [hg]; exact (below_size (by repeat (first | (with_reducible first | exact HB.out | apply ba_ | apply bn_ | apply bd_) | exact HB.out))) : w.heap.size ≤ gb203)); clear HB; have HB := n0_; have BK203 := n1_; have GW203 := n2_; have GE203 := n3_; clear n0_ n1_ n2_ n3_; clear hb hbox hg) | ((with_reducible refine gate_dst (N := 3) rfl ?_); refine box_event ?hg (N := 3) ?hd (cs := #[.int .i64 a1_0, .int .i64 a1_1, .slice A1_2 l1_2.length c1_2]) (t := 28) ?hr ?_; (case hd => rfl); (case hg => rfl); (case hr => first | (go_simp; done) | (go_simp; rfl)); intro gb204 hg w18 hbox hb; have n0_ := A0_ (blk_below (g := gb203) (o := .cells #[.int .i64 a0_0, .int .i64 a0_1, .slice A0_2 l0_2.length c0_2] 28 (0, 0)) (by (with_reducible repeat (first | apply gn_ | apply gd_ | apply ga_)); exact BK203.out) hb); have n1_ := A0_ (below_step (by repeat (first | (with_reducible first | exact HB.out | apply ba_ | apply bn_ | apply bd_ | refine below_set ?_ GE203.out) | exact HB.out)) hb); have n2_ := A0_ (hbox); have n3_ := A0_ ((by rw [hg]; exact (below_size (by repeat (first | (with_reducible first | exact HB.out | apply ba_ | apply bn_ | apply bd_ | refine below_set ?_ GE203.out) | exact HB.out))) : w.heap.size ≤ gb204)); have n4_ := A0_ ((by rw [hg]; exact (below_size (by repeat (first | (with_reducible first | exact HB.out | apply ba_ | apply bn_ | apply bd_ | refine below_set ?_ GE203.out) | exact HB.out))) : w.heap.size ≤ gb204)); have n5_ := A0_ ((by rw [hg]; exact Nat.ne_of_lt (blk_lt (g := gb203) (o := .cells #[.int .i64 a0_0, .int .i64 a0_1, .slice A0_2 l0_2.length c0_2] 28 (0, 0)) (by (with_reducible repeat (first | apply gn_ | apply gd_ | apply ga_)); exact BK203.out)) : gb203 ≠ gb204)); have n6_ := A0_ ((by rw [hg]; exact Nat.ne_of_gt (blk_lt (g := gb203) (o := .cells #[.int .i64 a0_0, .int .i64 a0_1, .slice A0_2 l0_2.length c0_2] 28 (0, 0)) (by (with_reducible repeat (first | apply gn_ | apply gd_ | apply ga_)); exact BK203.out)) : gb204 ≠ gb203)); clear BK203; clear HB; have BK203 := n0_; have HB := n1_; have BK204 := n2_; have GW204 := n3_; have GE204 := n4_; have NB203_204 := n5_; have NB204_203 := n6_; clear n0_ n1_ n2_ n3_ n4_ n5_ n6_; clear hb hbox hg; have hnb19 := NB203_204.out; have hnc19 := NB204_203.out; have hcz20_0 : w18.cell? ⟨gb203, 0, none⟩ = some (.int .i64 a0_0) := (blk_cell BK203.out 0).trans rfl; have hcz20_1 : w18.cell? ⟨gb203, 1, none⟩ = some (.int .i64 a0_1) := (blk_cell BK203.out 1).trans rfl; have hcz20_2 : w18.cell? ⟨gb203, 2, none⟩ = some (.slice A0_2 l0_2.length c0_2) := (blk_cell BK203.out 2).trans rfl; have hfz20_0 := blk_frozen BK203.out 0; have hfz20_1 := blk_frozen BK203.out 1; have hfz20_2 := blk_frozen BK203.out 2; have hcz21_0 : w18.cell? ⟨gb204, 0, none⟩ = some (.int .i64 a1_0) := (blk_cell BK204.out 0).trans rfl; have hcz21_1 : w18.cell? ⟨gb204, 1, none⟩ = some (.int .i64 a1_1) := (blk_cell BK204.out 1).trans rfl; have hcz21_2 : w18.cell? ⟨gb204, 2, none⟩ = some (.slice A1_2 l1_2.length c1_2) := (blk_cell BK204.out 2).trans rfl; have hfz21_0 := blk_frozen BK204.out 0; have hfz21_1 := blk_frozen BK204.out 1; have hfz21_2 := blk_frozen BK204.out 2))); go_ret; (exact ⟨by first | rfl | (simp [errW_none, errW_some] <;> rfl) | (simp [*, errW_none, errW_some] <;> rfl), by repeat (first | (with_reducible first | exact HB.out | apply ba_ | apply bn_ | apply bd_ | refine below_set ?_ GE203.out | refine below_set ?_ GE204.out) | exact HB.out)⟩)
end Go.Proofs.YtoglcgnbkibpgaaDoor.A

/- What the covers' laws do with instances: sizes, copies, comparisons. -/
namespace Go.Proofs.YtoglcgnbkibpgaaDoor.A
set_option linter.unusedSimpArgs false
set_option linter.unusedVariables false
open Go.RowKit Go.Proofs.YtoglcgnbkibpgaaDoorW.PrintWords Go.Proofs.YtoglcgnbkibpgaaDoorW.PrintLast Go.Proofs.YtoglcgnbkibpgaaDoorW.PrintMore
def szV : List (List Int) → Int → Int
  | [], a => a
  | r :: rs, a => if a - (r.length : Int) < 0 then -1 else szV rs (a - (r.length : Int))
def szL (rows : List (List Int)) : Int := if (1048576 : Int) - (rows.length : Int) < 0 then -1 else szV rows (1048576 - (rows.length : Int))
theorem szV_le : ∀ (rows : List (List Int)) (a : Int), 0 ≤ szV rows a → ∀ r ∈ rows, (r.length : Int) ≤ a
  | [], a, _ => fun r hr => by simp at hr
  | x :: rs, a, h => by
    unfold szV at h
    split at h
    · omega
    · intro r hr
      rw [List.mem_cons] at hr
      rcases hr with rfl | hr
      · omega
      · have := szV_le rs _ h r hr
        omega
theorem szL_ok (rows : List (List Int)) (h : ¬ szL rows < 0) : sizesOk rows := by
  unfold szL at h
  split at h
  · omega
  · refine ⟨by omega, fun r hr => ?_⟩
    have := szV_le rows (1048576 - (rows.length : Int)) (by omega) r hr
    omega
theorem szInt64SS_ev (rows : List (List Int)) (hm : Go.Proofs.YtoglcgnbkibpgaaDoor.Opn.okAll (Go.Proofs.YtoglcgnbkibpgaaDoor.Opn.okAll (Go.Proofs.YtoglcgnbkibpgaaDoor.Opn.okInt .i64)) rows) : Ev (fun k => laws_szInt64SS.f k rows 1048576) (szL rows) := by
  have h1 := hm.1
  have h2 : ∀ r ∈ rows, r.length ≤ maxLen := fun r hr => (hm.2 r hr).1
  unfold maxLen at h1 h2
  unfold laws_szInt64SS.f szL
  have e : wrap64 (1048576 - (rows.length : Int)) = 1048576 - (rows.length : Int) := by unfold wrap64; omega
  rw [e]
  by_cases c : (1048576 : Int) - (rows.length : Int) < 0
  · simp only [c, if_true]
    exact Ev.now _
  · simp only [c, if_false]
    have := ev_listI rows (fun (s : Int) (_ : Nat) => 0 ≤ s ∧ s ≤ 1048576) (fun s i k => laws_szInt64SS.l0 k rows s i) (fun s l => szV l s) (fun s hi => ?_) (fun s j hj hi ih => ?_) rows.length 0 (1048576 - (rows.length : Int)) (by omega) ⟨by omega, by omega⟩
    · simpa using this
    · exact Ev.step (f := fun _ => some s) (fun k => by simp only [laws_szInt64SS.l0]; rw [if_neg (by omega)]) (Ev.now _)
    · have hg : rd_L1 rows (j : Int) = rows[j] := by unfold rd_L1; exact getD_nat rows _ j hj
      have hr := h2 rows[j] (List.getElem_mem hj)
      have ew : wrap64 (s - (rows[j].length : Int)) = s - (rows[j].length : Int) := by unfold wrap64; omega
      refine Ev.succ ?_
      simp only [laws_szInt64SS.l0, show (j : Int) < (rows.length : Int) from by omega, show (0 : Int) ≤ (j : Int) from by omega, if_true, hg, laws_szInt64S.f, ew, wrap_succ j (by omega)]
      rw [show szV (rows[j] :: rows.drop (j + 1)) s = if s - (rows[j].length : Int) < 0 then -1 else szV (rows.drop (j + 1)) (s - (rows[j].length : Int)) from rfl]
      by_cases c2 : s - (rows[j].length : Int) < 0
      · simp only [c2, if_true, Option.bind_some, show ((-1 : Int) < 0) from by decide]
        exact Ev.now _
      · simp only [c2, if_false, Option.bind_some]
        exact ih _ ⟨by omega, by omega⟩
theorem szCover_ev (a b : Int) (rows : List (List Int)) (hm : Go.Proofs.YtoglcgnbkibpgaaDoor.Opn.okAll (Go.Proofs.YtoglcgnbkibpgaaDoor.Opn.okAll (Go.Proofs.YtoglcgnbkibpgaaDoor.Opn.okInt .i64)) rows) : Ev (fun k => laws_szCover.f k a b rows 1048576) (if szL rows < 0 then -1 else szL rows) := by
  unfold laws_szCover.f
  refine Ev.bind (szInt64SS_ev rows hm) ?_
  by_cases c : szL rows < 0
  · simp only [c, if_true]; exact Ev.now _
  · simp only [c, if_false]; exact Ev.now _
theorem toInt64S_ev (l : List Int) (h : l.length ≤ 1048576) : Ev (fun k => laws_toInt64S.f k l) l := by
  unfold laws_toInt64S.f
  simp only [Int.toNat_natCast, show (0 : Int) ≤ l.length from by omega, show l.length ≤ 35184372088832 from by omega, if_true]
  refine ev_at l.length (fun s j => s = (l.take j).map id ++ List.replicate (l.length - j) 0) l (fun s i k => laws_toInt64S.l0 k l s i) (fun s hi => ?_) (fun s j hj hi => ?_) _ (by simp)
  · refine Ev.step (f := fun _ => some s) (fun k => by simp only [laws_toInt64S.l0]; rw [if_neg (by omega)]) ?_
    rw [hi]
    simpa using Ev.now _
  · have hl : s.length = l.length := by rw [hi]; simp; omega
    refine ⟨s.set j (id l[j]), by rw [hi]; exact set_fill id _ l j hj, fun h2 => Ev.step (fun k => ?_) h2⟩
    simp only [laws_toInt64S.l0]
    rw [if_pos (by omega), if_pos (by omega), if_pos (by omega), wrap_succ j (by omega), rd_nat l j hj, Int.toNat_natCast]
    rfl
theorem toInt64SS_ev (l : List (List Int)) (h : sizesOk l) : Ev (fun k => laws_toInt64SS.f k l) l := by
  have h1 := h.1
  unfold laws_toInt64SS.f
  simp only [Int.toNat_natCast, show (0 : Int) ≤ l.length from by omega, show l.length ≤ 11728124029610 from by omega, if_true]
  refine ev_at l.length (fun s j => s = (l.take j).map id ++ List.replicate (l.length - j) []) l (fun s i k => laws_toInt64SS.l0 k l s i) (fun s hi => ?_) (fun s j hj hi => ?_) _ (by simp)
  · refine Ev.step (f := fun _ => some s) (fun k => by simp only [laws_toInt64SS.l0]; rw [if_neg (by omega)]) ?_
    rw [hi]
    simpa using Ev.now _
  · have hl : s.length = l.length := by rw [hi]; simp; omega
    have hg : rd_L1 l (j : Int) = l[j] := by unfold rd_L1; exact getD_nat l _ j hj
    refine ⟨s.set j (id l[j]), by rw [hi]; exact set_fill id _ l j hj, fun h2 => Ev.succ ?_⟩
    simp only [laws_toInt64SS.l0, show (j : Int) < (l.length : Int) from by omega, show (0 : Int) ≤ (j : Int) from by omega, show (j : Int) < (s.length : Int) from by omega, if_true, hg, wrap_succ j (by omega), Int.toNat_natCast]
    exact Ev.bind (toInt64S_ev l[j] (h.2 _ (List.getElem_mem hj))) h2
theorem toCover_ev (a b : Int) (l : List (List Int)) (h : sizesOk l) : Ev (fun k => laws_toCover.f k a b l) (a, b, l) := by
  unfold laws_toCover.f
  exact Ev.bind (toInt64SS_ev l h) (Ev.now _)
theorem eqInt64S_ev (l : List Int) (h : l.length ≤ 1048576) : Ev (fun k => laws_eqInt64S.f k l l) true := by
  unfold laws_eqInt64S.f
  simp only [if_true]
  refine ev_at l.length (fun (_ : Unit) _ => True) true (fun _ i k => laws_eqInt64S.l0 k l l i) (fun s hi => ?_) (fun s j hj hi => ?_) () trivial
  · exact Ev.step (f := fun _ => some true) (fun k => by simp only [laws_eqInt64S.l0]; rw [if_neg (by omega)]) (Ev.now _)
  · refine ⟨(), trivial, fun h2 => Ev.step (fun k => ?_) h2⟩
    simp only [laws_eqInt64S.l0, if_true]
    rw [if_pos (by omega), if_pos (by omega), if_pos (by omega), wrap_succ j (by omega)]
theorem eqInt64SS_ev (l : List (List Int)) (h : sizesOk l) : Ev (fun k => laws_eqInt64SS.f k l l) true := by
  have h1 := h.1
  unfold laws_eqInt64SS.f
  simp only [if_true]
  refine ev_at l.length (fun (_ : Unit) _ => True) true (fun _ i k => laws_eqInt64SS.l0 k l l i) (fun s hi => ?_) (fun s j hj hi => ?_) () trivial
  · exact Ev.step (f := fun _ => some true) (fun k => by simp only [laws_eqInt64SS.l0]; rw [if_neg (by omega)]) (Ev.now _)
  · have hg : rd_L1 l (j : Int) = l[j] := by unfold rd_L1; exact getD_nat l _ j hj
    refine ⟨(), trivial, fun h2 => Ev.succ ?_⟩
    simp only [laws_eqInt64SS.l0, show (j : Int) < (l.length : Int) from by omega, show (0 : Int) ≤ (j : Int) from by omega, if_true, hg, wrap_succ j (by omega)]
    refine Ev.bind (eqInt64S_ev l[j] (h.2 _ (List.getElem_mem hj))) ?_
    simpa using h2
theorem eqCover_ev (a b : Int) (l : List (List Int)) (h : sizesOk l) : Ev (fun k => laws_eqCover.f k a b l a b l) true := by
  unfold laws_eqCover.f
  simp only [if_true]
  exact Ev.bind (eqInt64SS_ev l h) (by simpa using Ev.now true)
end Go.Proofs.YtoglcgnbkibpgaaDoor.A

namespace Go.Proofs.YtoglcgnbkibpgaaDoor.A
open Go.RowKit Go.Proofs.YtoglcgnbkibpgaaDoorW.PrintWords Go.Proofs.YtoglcgnbkibpgaaDoorW.PrintLast Go.Proofs.YtoglcgnbkibpgaaDoorW.PrintMore
attribute [local go_sem] max2_int min2_int max_two min_two max_three min_three max_four min_four   -- for this text's walks alone
set_option linter.unusedVariables false
set_option linter.unusedSimpArgs false
def laws_markInt64S.l0 : Nat → List Int → Int → Int → Option (Int × List Int)
  | 0, _, _, _ => none
  | k + 1, x0, x1, x5 => if x5 < (x0.length : Int) then (if 0 ≤ x5 then (laws_markInt64S.l0 k (x0.set (x5 : Int).toNat x1) (wrap64 (x1 + 1)) (wrap64 (x5 + 1))) else (none)) else (some (x1, x0))
def laws_markInt64S.f (k : Nat) (l0 : List Int) (a1 : Int) : Option (Int × List Int) := laws_markInt64S.l0 k l0 a1 0
set_option maxHeartbeats 8000000 in
set_option maxRecDepth 100000 in
theorem laws_markInt64S.calls (k : Nat) (P0_ : Nat → Prop) (u9000_ : Value) (l0 : List Int) (a1 : Int) (r1 : Int) (r2 : List Int) (w0 w : World) (hB : Below w0.heap.size w0 w) (ho0 : Kd.R (Kd.int .i64) 2 w w0.heap.size P0_ u9000_ l0) (h : laws_markInt64S.f k l0 a1 = some (r1, r2)) :
    Calls Tryd.prog 21 #[u9000_, .int .i64 a1] w fun e w' => e = .returned (.int .i64 r1) ∧ Kd.R (Kd.int .i64) 2 w' w0.heap.size (fun k_ => (P0_ k_ ∨ w.heap.size ≤ k_)) u9000_ r2 ∧ Below w0.heap.size w0 w' ∧ Kept w w' (fun k_ => P0_ k_) := by
 have HO0 := A0_ (show Kd.R (Kd.int .i64) 2 w w0.heap.size (fun k_ => (P0_ k_ ∨ w.heap.size ≤ k_)) u9000_ l0 from Kd.R_mono ho0 (fun k_ hk => (.inl hk)))
 have HK := A0_ (Kept.refl w (fun k_ => P0_ k_))
 (have HW0 := A0_ hB.size); (have HB := A0_ hB); clear hB; (have H : (laws_markInt64S.l0 k l0 a1 0) = some (r1, r2) := h); clear h; (have H' := A0_ H); clear H; (go_enter Tryd.func21, Tryd.ntmps21); go_wp2
 go_loopg [1, 5] k (fun kq v1 v5 w' => ∃ (x0_1 : List Int) (x1_1 : Int) (x5_1 : Int), v1 = .int .i64 x1_1 ∧ v5 = .int .i64 x5_1 ∧ Aside0 (laws_markInt64S.l0 kq x0_1 x1_1 x5_1 = some (r1, r2)) ∧ Aside0 (kq ≤ k) ∧ Aside0 (Kd.R (Kd.int .i64) 2 w' w0.heap.size (fun k_ => (P0_ k_ ∨ w.heap.size ≤ k_)) u9000_ x0_1) ∧ Aside0 (Kept w w' (fun k_ => P0_ k_)) ∧ Aside0 (Below w0.heap.size w0 w'))
 case atStart => exact ⟨(l0), (a1), (0), (by first | rfl | (simp; done) | (simp [*]; done)), (by first | rfl | (simp; done) | (simp [*]; done)), H', ⟨Nat.le_refl _⟩, ⟨by (with_reducible repeat (first | apply Ra_ | apply Rn_ | apply Rd_)); exact HO0.out⟩, ⟨by repeat (first | (with_reducible first | exact HK.out | apply Kept.alloc | apply Kept.drewN | apply Kept.drew) | exact HK.out)⟩, ⟨by repeat (first | (with_reducible first | exact HB.out | apply ba_ | apply bn_ | apply bd_) | exact HB.out)⟩⟩
 case round =>
  clear H'; (try clear c2); (try clear p2); (obtain ⟨x0_1, x1_1, x5_1, rfl, rfl, HA, HK1, HO_0, HK, HB⟩ := hrel)
  cases gk with
  | zero => exact absurd HA.out (by simp [laws_markInt64S.l0])
  | succ k1 =>
   (have H := HA.out); clear HA; (simp only [laws_markInt64S.l0] at H); (by_cases c3 : x5_1 < (x0_1.length : Int))
   ·(rw [if_pos c3] at H); (have c3b0 : decide (x5_1 < (x0_1.length : Int)) = true := decide_eq_true c3); clear c3; (by_cases c4 : 0 ≤ x5_1)
    ·(rw [if_pos c4] at H); (have c4b0 : decide (0 ≤ x5_1) = true := decide_eq_true c4); clear c4; (obtain ⟨y266, hy266⟩ : ∃ y_ : List Int, y_ = (x0_1.set (x5_1 : Int).toNat x1_1) := ⟨_, rfl⟩); (replace H : (laws_markInt64S.l0 k1 y266 (wrap64 (x1_1 + 1)) (wrap64 (x5_1 + 1))) = some (r1, r2) := by first | (rw [hy266]; with_reducible exact H) | (have H2_ := (Option.bind_some _ _).symm.trans H; rw [hy266]; with_reducible exact H2_) | (have H2_ := (Option.bind_some _ _).symm.trans H; with_reducible exact H2_) | with_reducible exact H | (rw [hy266]; exact H) | exact H); (have Ny266 := A0_ hy266); clear hy266; (have H' := A0_ H); clear H; (obtain ⟨Ao6, co6, eo6⟩ := Kd.R_slice HO_0.out); subst eo6; (have p5 : 0 ≤ (x5_1 : Int) := of_decide_eq_true (by first | (with_reducible assumption) | assumption)); (have q5 : (x5_1 : Int) < ((x0_1.length : Int) : Int) := of_decide_eq_true (by first | (with_reducible assumption) | assumption)); (obtain ⟨go5, co5, eo5, gb5, gl5, cl5, HG5⟩ := Kd.R_form HO_0.out (by omega)); ((first | cases eo5 | (injection eo5 with ea_ en_ ec_; (first | subst ea_ | (injection ea_ with ea_; subst ea_)); subst ec_; clear en_))); (have GB5 := A0_ gb5); (have GG5 := A0_ HG5); clear gb5 gl5 HG5; (have HMgo5 := A0_ (show (P0_ go5 ∨ w.heap.size ≤ go5) from (HO_0.out.1 _ rfl))); (obtain ⟨hx5_0, hf5_0⟩ := Kd.R_celln 0 HO_0.out (x5_1 : Int) p5 q5); (replace p5 := eq_true p5); (replace q5 := eq_true q5); (have HP7 := Kd.R_putg HO_0.out (x5_1 : Int) x1_1)
     go_wp2_with (first | ((with_reducible refine gate_store (t := 2) (p := 15) rfl ?_); refine store_event (t := 2) (p := 15) (v := ?vo_w8) (w1 := (wr.setCell ⟨go5, (x5_1 : Int).toNat, none⟩ (.int .i64 x1_1))) ?hg ?ho ?hn ?hr ?_; (case ho => rfl); (case hg => rfl); (case hn => rfl); (case hr => first | (go_simp; done) | (go_simp; rfl)); intro w8 hw; have hg : wr.grownBy w8 (some go5) := (by rw [hw]; exact HP7.2); have hp_ : Kd.R (Kd.int .i64) 2 w8 w0.heap.size (fun k_ => (P0_ k_ ∨ w.heap.size ≤ k_)) (.slice (some ⟨go5, 0, none⟩) x0_1.length co6) y266 := (by rw [hw, Ny266.out]; exact HP7.1); clear HP7; have n0_ := A0_ (hp_); have n1_ := A0_ ((by rw [hw]; exact below_set (HB.out) GB5.out : Below w0.heap.size w0 w8)); have n2_ := A0_ (Kept.of_grown (S := (fun k_ => P0_ k_)) hg (by repeat (first | (with_reducible first | exact HK.out | apply Kept.alloc | apply Kept.drewN | apply Kept.drew) | exact HK.out)) (fun k_ e_ => (HO_0.out.1 k_ e_))); clear HO_0; clear HB; clear HK; have HO_0 := n0_; have HB := n1_; have HK := n2_; clear n0_ n1_ n2_; clear hg hw hp_))
     (go_roundg k1)
     case measure => have := HK1.out; omega
     case rel => exact ⟨(y266), (wrap64 (x1_1 + 1)), (wrap64 (x5_1 + 1)), (by first | rfl | (simp; done) | (simp [*]; done)), (by first | rfl | (simp; done) | (simp [*]; done)), H', ⟨by have := HK1.out; omega⟩, ⟨by (with_reducible repeat (first | apply Ra_ | apply Rn_ | apply Rd_)); exact HO_0.out⟩, ⟨by repeat (first | (with_reducible first | exact HK.out | apply Kept.alloc | apply Kept.drewN | apply Kept.drew) | exact HK.out)⟩, ⟨by repeat (first | (with_reducible first | exact HB.out | apply ba_ | apply bn_ | apply bd_) | exact HB.out)⟩⟩
    ·(rw [if_neg c4] at H); (exact absurd H (by simp))
   ·(rw [if_neg c3] at H); (have c3b0 : decide (x5_1 < (x0_1.length : Int)) = false := decide_eq_false c3); clear c3; (simp only [Option.some.injEq, Prod.mk.injEq] at H); (obtain ⟨rfl, rfl⟩ := H); (obtain ⟨Ao9, co9, eo9⟩ := Kd.R_slice HO_0.out); subst eo9; go_wp2; go_ret; (exact ⟨by first | rfl | (simp [errW_none, errW_some] <;> rfl) | (simp [*, errW_none, errW_some] <;> rfl), by (with_reducible repeat (first | apply Ra_ | apply Rn_ | apply Rd_)); exact HO_0.out, by repeat (first | (with_reducible first | exact HB.out | apply ba_ | apply bn_ | apply bd_) | exact HB.out), by repeat (first | (with_reducible first | exact HK.out | apply Kept.alloc | apply Kept.drewN | apply Kept.drew) | exact HK.out)⟩)
end Go.Proofs.YtoglcgnbkibpgaaDoor.A

/- Marks: laws.markInt64SS writes numbers into the inner rows of a row of rows; walked by hand over the kit's lent elements. -/
namespace Go.Proofs.YtoglcgnbkibpgaaDoor.A
set_option linter.unusedSimpArgs false
set_option linter.unusedVariables false
open Go.RowKit Go.Proofs.YtoglcgnbkibpgaaDoorW.PrintWords Go.Proofs.YtoglcgnbkibpgaaDoorW.PrintLast Go.Proofs.YtoglcgnbkibpgaaDoorW.PrintMore
def ints (c : Int) (n : Nat) : List Int := (List.range n).map fun (i : Nat) => c + (i : Int)
theorem ints_len (c : Int) (n : Nat) : (ints c n).length = n := by simp [ints]
theorem markInt64S_ev (l : List Int) (a : Int) (h : l.length ≤ 1048576) (h0 : 0 ≤ a) (h1 : a ≤ 1000000000000) : Ev (fun k => laws_markInt64S.f k l a) (a + (l.length : Int), ints a l.length) := by
  unfold laws_markInt64S.f
  refine ev_at l.length (fun (s : List Int × Int) j => s.1.length = l.length ∧ s.2 = a + (j : Int) ∧ s.1.take j = ints a j) (a + (l.length : Int), ints a l.length) (fun s i k => laws_markInt64S.l0 k s.1 s.2 i) (fun s hi => ?_) (fun s j hj hi => ?_) (l, a) ⟨rfl, by simp, by simp [ints]⟩
  · refine Ev.step (f := fun _ => some (s.2, s.1)) (fun k => by simp only [laws_markInt64S.l0]; rw [if_neg (by omega)]) ?_
    have h3 := hi.2.2
    rw [List.take_of_length_le (by omega)] at h3
    rw [hi.2.1, h3]
    exact Ev.now _
  · refine ⟨(s.1.set j s.2, s.2 + 1), ⟨by simp only [List.length_set]; exact hi.1, by simp only; omega, ?_⟩, fun h2 => Ev.step (fun k => ?_) h2⟩
    · have hl : j < (s.1.set j s.2).length := by rw [List.length_set]; omega
      simp only
      rw [List.take_succ_eq_append_getElem hl, List.getElem_set_self, List.take_set_of_le (Nat.le_refl j), hi.2.2, hi.2.1]
      simp [ints, List.range_succ]
    · simp only [laws_markInt64S.l0, Int.toNat_natCast]
      rw [if_pos (by omega), if_pos (by omega), wrap_succ j (by omega), show wrap64 (s.2 + 1) = s.2 + 1 from by have := hi.2.1; unfold wrap64; omega]
def tot (rows : List (List Int)) : Int := ((rows.map List.length).sum : Nat)
theorem tot_next (rows : List (List Int)) (i : Nat) (h : i < rows.length) : tot (rows.take (i + 1)) = tot (rows.take i) + (rows[i].length : Int) := by
  unfold tot
  rw [List.take_succ_eq_append_getElem h, List.map_append, List.sum_append]
  simp
theorem tot_le (rows : List (List Int)) (i : Nat) : tot (rows.take i) ≤ tot rows ∧ 0 ≤ tot (rows.take i) := by
  unfold tot
  have := congrArg (fun l => (List.map List.length l).sum) (List.take_append_drop i rows)
  simp only [List.map_append, List.sum_append] at this
  omega
set_option maxHeartbeats 1000000 in
set_option maxRecDepth 100000 in
theorem laws_markInt64SS.calls' (rows : List (List Int)) (fp : Nat → Prop) (u : Value) (a : Int) (w0 w : World) (hB : Below w0.heap.size w0 w) (hS : Kd.S kL 32 w w0.heap.size fp u rows) (h0 : 0 ≤ a) (h1 : a + tot rows ≤ 1000000000000) (hl : rows.length ≤ 1048576) (hr : ∀ r ∈ rows, r.length ≤ 1048576) :
    Calls Tryd.prog 33 #[u, .int .i64 a] w fun e w' => e = .returned (.int .i64 (a + tot rows)) ∧ ∃ rows', Kd.S kL 32 w' w0.heap.size (fun k => fp k ∨ w.heap.size ≤ k) u rows' ∧ Below w0.heap.size w0 w' ∧ Kept w w' fp := by
  obtain ⟨A, c, rfl⟩ := Kd.S_slice hS
  have HS := A0_ (Kd.S_mono (ok' := fun k => fp k ∨ w.heap.size ≤ k) hS (fun k hk => .inl hk))
  have HB := A0_ hB
  have HK := A0_ (Kept.refl w fp)
  have HA := A0_ (And.intro h0 h1)
  have HL := A0_ hl
  have HR := A0_ hr
  clear hS hB h0 h1 hl hr
  go_enter Tryd.func33, Tryd.ntmps33
  go_wp2
  go_loopg [1, 5] (rows.length + 1) (fun kq v1 v5 w' => ∃ (i : Nat) (rs : List (List Int)), v5 = .int .i64 (i : Int) ∧ v1 = .int .i64 (a + tot (rows.take i)) ∧ Aside0 (i ≤ rows.length ∧ kq + i = rows.length + 1 ∧ rs.length = rows.length ∧ ∀ j, i ≤ j → rs[j]? = rows[j]?) ∧ Aside0 (Kd.S kL 32 w' w0.heap.size (fun k => fp k ∨ w.heap.size ≤ k) (.slice A rows.length c) rs) ∧ Aside0 (Below w0.heap.size w0 w') ∧ Aside0 (Kept w w' fp))
  case atStart => exact ⟨0, rows, rfl, by simp [tot], ⟨by omega, by omega, rfl, fun _ _ => rfl⟩, HS, HB, HK⟩
  case round =>
    clear HS HB HK
    obtain ⟨i, rs, rfl, rfl, HX, HS, HB, HK⟩ := hrel
    obtain ⟨k1, rfl⟩ : ∃ k1, gk = k1 + 1 := ⟨gk - 1, by have := HX.out; omega⟩
    by_cases ci : i < rows.length
    · have ci0 : decide (i < rows.length) = true := decide_eq_true ci
      have ci1 := eq_true ci
      have hrl := HX.out.2.2.1
      obtain ⟨g, cap, e, hgb, hgl, _⟩ := Kd.S_form HS.out (by omega)
      rw [hrl] at e
      injection e with e1 e2 e3
      subst e1 e3
      obtain ⟨oki, cc, hcl, hM, hcc, hfr, hoki, hH⟩ := Kd.S_elem HS.out [] (i : Int) (by omega) (by omega)
      have hget : rs.getD (i : Int).toNat [] = rows[i] := by
        rw [Int.toNat_natCast, List.getD_eq_getElem?_getD, HX.out.2.2.2 i (Nat.le_refl i), List.getElem?_eq_getElem ci]; rfl
      rw [hget] at hM
      obtain ⟨v, rfl, hRv⟩ := hM
      obtain ⟨A2, c2, rfl⟩ := Kd.R_slice hRv
      have hcell := hcc 0 _ rfl
      have ez : (i : Int).toNat * kL.sz + 0 = i := by show (i : Int).toNat * 1 + 0 = i; omega
      rw [ez] at hcell
      obtain ⟨r, hrr⟩ : ∃ r, r = rows[i] := ⟨_, rfl⟩
      have htn := tot_next rows i ci
      rw [← hrr] at hRv hcell htn hH
      have HTN := A0_ htn
      have hrlen : r.length ≤ 1048576 := hrr ▸ HR.out _ (List.getElem_mem ci)
      have htl := tot_le rows i
      have htl2 := tot_le rows (i + 1)
      obtain ⟨km, hkm⟩ := (markInt64S_ev r (a + tot (rows.take i)) hrlen (by have := HA.out; omega) (by have := HA.out; omega)).rounds
      have HKM := A0_ hkm
      have HRV := A0_ hRv
      have HWI := A0_ (wrap_succ i (by have := HL.out; omega))
      have HH := A0_ hH
      have HOK := A0_ hoki
      have HC := A0_ ci
      have p0 : ((i : Int) < (rows.length : Int)) = True := eq_true (by omega)
      clear hkm hRv hH hoki hcl hcc hfr hget hrr htn htl htl2 hrlen ci
      go_wp2_with (first
        | (go_at_call 21; refine (laws_markInt64S.calls km oki _ r (a + tot (rows.take i)) _ _ w0 _ HB.out HRV.out HKM.out).mono ?_; rintro e w1 ⟨rfl, ho, hb, hk⟩; have HO := A0_ ho; have HB1 := A0_ hb; have HKK := A0_ hk; clear ho hb hk))
      go_roundg k1
      case measure => omega
      case rel =>
        rw [HWI.out]
        refine ⟨i + 1, rs.set i (ints (a + tot (rows.take i)) r.length), rfl, by rw [HTN.out]; congr 1; omega, ⟨by have := HC.out; omega, by have := HX.out; omega, by rw [List.length_set]; exact HX.out.2.2.1, fun j hj => by rw [List.getElem?_set_ne (by omega)]; exact HX.out.2.2.2 j (by omega)⟩, ⟨?_⟩, HB1, ⟨?_⟩⟩
        · have hw := Kd.H_widen HH.out
          have hk2 := Kd.H_kept hw HKK.out (fun k _ hn hs => hn (.inl hs))
          have := Kd.H_back hk2 (x' := ints (a + tot (rows.take i)) r.length) ⟨_, rfl, Kd.R_mono (ok' := fun k => oki k ∨ (fp k ∨ w.heap.size ≤ k) ∧ wr.heap.size ≤ k) HO.out (fun k hk => hk.elim .inl (fun h => .inr ⟨.inr (Nat.le_trans HK.out.1 h), h⟩))⟩ (fun _ h => h)
          rw [Int.toNat_natCast] at this
          exact this
        · exact Kept.then_ HK.out HKK.out (fun k hk => (HOK.out k hk).1)
    · have ci0 : decide (i < rows.length) = false := decide_eq_false ci
      have hi : i = rows.length := by have := HX.out; omega
      have HI := A0_ hi
      clear ci hi
      go_wp2
      go_ret
      exact ⟨by rw [HI.out, List.take_length]; rfl, rs, HS.out, HB.out, HK.out⟩
set_option maxHeartbeats 1000000 in
set_option maxRecDepth 100000 in
theorem laws_markCover.calls' (C Q : Int) (rows : List (List Int)) (fp : Nat → Prop) (A : Option Addr) (n c : Nat) (a : Int) (w0 w : World) (hB : Below w0.heap.size w0 w) (hS : Kd.S kL 32 w w0.heap.size fp (.slice A n c) rows) (h0 : 0 ≤ a) (h1 : a + tot rows ≤ 1000000000000) (hl : rows.length ≤ 1048576) (hr : ∀ r ∈ rows, r.length ≤ 1048576) :
    Calls Tryd.prog 20 #[.agg #[.int .i64 C, .int .i64 Q, .slice A n c], .int .i64 a] w fun e w' => e = .returned (.int .i64 (a + tot rows)) ∧ ∃ rows', Kd.S kL 32 w' w0.heap.size (fun k => fp k ∨ w.heap.size ≤ k) (.slice A n c) rows' ∧ Below w0.heap.size w0 w' ∧ Kept w w' fp := by
  have HS := A0_ (Kd.S_alloc hS (.cells #[.int .i64 C, .int .i64 Q, .slice A n c] 28))
  have HB := A0_ (below_alloc hB (.cells #[.int .i64 C, .int .i64 Q, .slice A n c] 28))
  have HKA := A0_ (Kept.alloc (Kept.refl w fp) (.cells #[.int .i64 C, .int .i64 Q, .slice A n c] 28))
  have HA := A0_ (And.intro h0 h1)
  have HL := A0_ hl
  have HR := A0_ hr
  clear hS hB h0 h1 hl hr
  go_enter Tryd.func20, Tryd.ntmps20
  go_wp2_with (first
    | (go_at_call 33; refine (laws_markInt64SS.calls' rows fp _ a w0 _ HB.out HS.out HA.out.1 HA.out.2 HL.out HR.out).mono ?_; rintro e w1 ⟨rfl, rows', hs, hb, hk⟩; have HS1 := A0_ hs; have HB1 := A0_ hb; have HK1 := A0_ hk; clear hs hb hk))
  go_ret
  exact ⟨rfl, rows', Kd.S_mono HS1.out (fun k hk => hk.imp_right (fun h => Nat.le_trans HKA.out.1 h)), HB1.out, Kept.then_ HKA.out HK1.out (fun k hk => .inl hk)⟩
end Go.Proofs.YtoglcgnbkibpgaaDoor.A

namespace Go.Proofs.YtoglcgnbkibpgaaDoor.A
open Go.RowKit Go.Proofs.YtoglcgnbkibpgaaDoorW.PrintWords Go.Proofs.YtoglcgnbkibpgaaDoorW.PrintLast Go.Proofs.YtoglcgnbkibpgaaDoorW.PrintMore
attribute [local go_sem] max2_int min2_int max_two min_two max_three min_three max_four min_four   -- for this text's walks alone
set_option linter.unusedVariables false
set_option linter.unusedSimpArgs false
def laws_heldInt64S.l0 : Nat → List Int → Int → Int → Option (Int)
  | 0, _, _, _ => none
  | k + 1, x0, x1, x5 => if x5 < (x0.length : Int) then (if 0 ≤ x5 then (if (rd x0 x5) = x1 then (laws_heldInt64S.l0 k x0 (wrap64 (x1 + 1)) (wrap64 (x5 + 1))) else (some (-1))) else (none)) else (some x1)
def laws_heldInt64S.f (k : Nat) (l0 : List Int) (a1 : Int) : Option (Int) := laws_heldInt64S.l0 k l0 a1 0
set_option maxHeartbeats 8000000 in
set_option maxRecDepth 100000 in
theorem laws_heldInt64S.calls (k : Nat) (A0 : Option Addr) (c0 : Nat) (l0 : List Int) (a1 : Int) (r : Int) (w : World) (hr0 : Kd.C (Kd.int .i64) w A0 l0.length l0) (hc0 : l0.length ≤ c0) (h : laws_heldInt64S.f k l0 a1 = some r) :
    Calls Tryd.prog 22 #[.slice A0 l0.length c0, .int .i64 a1] w fun e w' => e = .returned (.int .i64 r) ∧ Drawn0 w w' := by
 (have HR0 := A0_ hr0); (have HC0 := A0_ hc0); clear hr0 hc0; (have H : (laws_heldInt64S.l0 k l0 a1 0) = some r := h); clear h; (have H' := A0_ H); clear H; (go_enter Tryd.func22, Tryd.ntmps22); go_wp2
 go_loopg [1, 5] k (fun kq v1 v5 w' => ∃ (x1_1 : Int) (x5_1 : Int), v1 = .int .i64 x1_1 ∧ v5 = .int .i64 x5_1 ∧ Aside0 (laws_heldInt64S.l0 kq l0 x1_1 x5_1 = some r) ∧ Aside0 (kq ≤ k) ∧ Drawn0 w w')
 case atStart => exact ⟨(a1), (0), (by first | rfl | (simp; done) | (simp [*]; done)), (by first | rfl | (simp; done) | (simp [*]; done)), H', ⟨Nat.le_refl _⟩, by repeat (first | exact Drawn0.refl _ | apply Drawn0.step)⟩
 case round =>
  clear H'; (try clear c2); (try clear p2); (obtain ⟨x1_1, x5_1, rfl, rfl, HA, HK1, ⟨m1, rfl⟩⟩ := hrel)
  cases gk with
  | zero => exact absurd HA.out (by simp [laws_heldInt64S.l0])
  | succ k1 =>
   (have H := HA.out); clear HA; (simp only [laws_heldInt64S.l0] at H); (by_cases c3 : x5_1 < (l0.length : Int))
   ·(rw [if_pos c3] at H); (have c3b0 : decide (x5_1 < (l0.length : Int)) = true := decide_eq_true c3); clear c3; (by_cases c4 : 0 ≤ x5_1)
    ·(rw [if_pos c4] at H); (have c4b0 : decide (0 ≤ x5_1) = true := decide_eq_true c4); clear c4; (by_cases c5 : (rd l0 x5_1) = x1_1)
     ·(rw [if_pos c5] at H); (have c5b0 : ((rd l0 x5_1) == x1_1) = true := beq_iff_eq.mpr c5); (have c5b1 : ((rd l0 x5_1) != x1_1) = false := bne_eq_false_iff_eq.mpr c5); clear c5; (have H' := A0_ H); clear H; (have p268 : 0 ≤ (x5_1 : Int) := of_decide_eq_true (by first | (with_reducible assumption) | assumption)); (have q268 : x5_1 < (l0.length : Int) := of_decide_eq_true (by first | (with_reducible assumption) | assumption)); (obtain ⟨ad268, e268, hx268_0⟩ := Kd.at_int HR0.out x5_1 p268 q268); (cases e268); (replace p268 := eq_true p268); (replace q268 := eq_true q268); go_wp2; (go_roundg k1)
      case measure => have := HK1.out; omega
      case rel => exact ⟨(wrap64 (x1_1 + 1)), (wrap64 (x5_1 + 1)), (by first | rfl | (simp; done) | (simp [*]; done)), (by first | rfl | (simp; done) | (simp [*]; done)), H', ⟨by have := HK1.out; omega⟩, by repeat (first | exact Drawn0.refl _ | apply Drawn0.step)⟩
     ·(rw [if_neg c5] at H); (have c5b0 : ((rd l0 x5_1) == x1_1) = false := beq_eq_false_iff_ne.mpr c5); (have c5b1 : ((rd l0 x5_1) != x1_1) = true := bne_iff_ne.mpr c5); (obtain rfl := Option.some.inj H); (have p268 : 0 ≤ (x5_1 : Int) := of_decide_eq_true (by first | (with_reducible assumption) | assumption)); (have q268 : x5_1 < (l0.length : Int) := of_decide_eq_true (by first | (with_reducible assumption) | assumption)); (obtain ⟨ad268, e268, hx268_0⟩ := Kd.at_int HR0.out x5_1 p268 q268); (cases e268); (replace p268 := eq_true p268); (replace q268 := eq_true q268); go_wp2; go_ret; (exact ⟨by first | rfl | (simp; done) | (simp [*]; done), by repeat (first | exact Drawn0.refl _ | apply Drawn0.step)⟩)
    ·(rw [if_neg c4] at H); (exact absurd H (by simp))
   ·(rw [if_neg c3] at H); (have c3b0 : decide (x5_1 < (l0.length : Int)) = false := decide_eq_false c3); clear c3; (obtain rfl := Option.some.inj H); go_wp2; go_ret; (exact ⟨by first | rfl | (simp; done) | (simp [*]; done), by repeat (first | exact Drawn0.refl _ | apply Drawn0.step)⟩)
end Go.Proofs.YtoglcgnbkibpgaaDoor.A

namespace Go.Proofs.YtoglcgnbkibpgaaDoor.A
open Go.RowKit Go.Proofs.YtoglcgnbkibpgaaDoorW.PrintWords Go.Proofs.YtoglcgnbkibpgaaDoorW.PrintLast Go.Proofs.YtoglcgnbkibpgaaDoorW.PrintMore
attribute [local go_sem] max2_int min2_int max_two min_two max_three min_three max_four min_four   -- for this text's walks alone
set_option linter.unusedVariables false
set_option linter.unusedSimpArgs false
def laws_heldInt64SS.l0 : Nat → List (List Int) → Int → Int → Option (Int)
  | 0, _, _, _ => none
  | k + 1, x0, x1, x5 => if x5 < (x0.length : Int) then (if 0 ≤ x5 then ((laws_heldInt64S.f k (rd_L1 x0 x5) x1).bind fun t498 => (if t498 < 0 then (some (-1)) else (laws_heldInt64SS.l0 k x0 t498 (wrap64 (x5 + 1))))) else (none)) else (some x1)
def laws_heldInt64SS.f (k : Nat) (l0 : List (List Int)) (a1 : Int) : Option (Int) := laws_heldInt64SS.l0 k l0 a1 0
set_option maxHeartbeats 8000000 in
set_option maxRecDepth 100000 in
theorem laws_heldInt64SS.calls (k : Nat) (A0 : Option Addr) (c0 : Nat) (l0 : List (List Int)) (a1 : Int) (r : Int) (w : World) (hr0 : Kd.C (Kd.slice 2 (Kd.int .i64)) w A0 l0.length l0) (hc0 : l0.length ≤ c0) (h : laws_heldInt64SS.f k l0 a1 = some r) :
    Calls Tryd.prog 34 #[.slice A0 l0.length c0, .int .i64 a1] w fun e w' => e = .returned (.int .i64 r) ∧ Drawn0 w w' := by
 (have HR0 := A0_ hr0); (have HC0 := A0_ hc0); clear hr0 hc0; (have H : (laws_heldInt64SS.l0 k l0 a1 0) = some r := h); clear h; (have H' := A0_ H); clear H; (go_enter Tryd.func34, Tryd.ntmps34); go_wp2
 go_loopg [1, 5] k (fun kq v1 v5 w' => ∃ (x1_1 : Int) (x5_1 : Int), v1 = .int .i64 x1_1 ∧ v5 = .int .i64 x5_1 ∧ Aside0 (laws_heldInt64SS.l0 kq l0 x1_1 x5_1 = some r) ∧ Aside0 (kq ≤ k) ∧ Drawn0 w w')
 case atStart => exact ⟨(a1), (0), (by first | rfl | (simp; done) | (simp [*]; done)), (by first | rfl | (simp; done) | (simp [*]; done)), H', ⟨Nat.le_refl _⟩, by repeat (first | exact Drawn0.refl _ | apply Drawn0.step)⟩
 case round =>
  clear H'; (try clear p2); (obtain ⟨x1_1, x5_1, rfl, rfl, HA, HK1, ⟨m1, rfl⟩⟩ := hrel)
  cases gk with
  | zero => exact absurd HA.out (by simp [laws_heldInt64SS.l0])
  | succ k1 =>
   (have H := HA.out); clear HA; (simp only [laws_heldInt64SS.l0] at H); (by_cases c3 : x5_1 < (l0.length : Int))
   ·(rw [if_pos c3] at H); (have c3b0 : decide (x5_1 < (l0.length : Int)) = true := decide_eq_true c3); clear c3; (by_cases c4 : 0 ≤ x5_1)
    ·(rw [if_pos c4] at H); (have c4b0 : decide (0 ≤ x5_1) = true := decide_eq_true c4); clear c4; (replace H := Option.bind_eq_some_iff.mp H); (obtain ⟨t498, A50, H⟩ := H); (try dsimp only at H); (have A5 := A0_ A50); clear A50; (have H0_ := A0_ H); clear H; (have p497 : 0 ≤ (x5_1 : Int) := of_decide_eq_true (by first | (with_reducible assumption) | assumption)); (have q497 : x5_1 < (l0.length : Int) := of_decide_eq_true (by first | (with_reducible assumption) | assumption)); (obtain ⟨ad497, A497_0, c497_0, e497, hx497_0, hl497_0, hi497_0⟩ := at_L1 HR0.out x5_1 p497 q497); (cases e497); (have HR497_0 := A0_ hi497_0); (have HC497_0 := A0_ hl497_0); clear hi497_0 hl497_0; (replace p497 := eq_true p497); (replace q497 := eq_true q497); (go_wp2_with (first | ((with_reducible refine gate_callee (f := 22) rfl ?_); refine goesL_ (some 17) rfl rfl Tryd.func22 (by kernel_rfl) rfl #[.slice A497_0 (rd_L1 l0 x5_1).length c497_0, .int .i64 x1_1] rfl (by (try simp only [List.map_toArray, List.map_cons, List.map_nil]); first | done | rfl | (simp only [List.length_drop, List.length_take]; rfl)) ?_; (with_reducible refine (laws_heldInt64S.calls k1 _ _ (rd_L1 l0 x5_1) x1_1 t498 _ ?side1 ?side2 A5.out).mono ?_); (case side1 => repeat (first | exact HR497_0.out | (with_reducible refine Kd.C_alloc ?_ _) | (with_reducible refine Kd.C_drewN ?_ _) | (with_reducible refine Kd.C_drew ?_))); (case side2 => exact HC497_0.out); rintro e w' ⟨rfl, ⟨nd, rfl⟩⟩; refine ⟨_, rfl, ?_⟩; refine Stop0.out ?_))); (refine Stop0.mk ?_); (have H := H0_.out); clear H0_; (by_cases c6 : t498 < 0)
     ·(rw [if_pos c6] at H); (have c6b0 : decide (t498 < 0) = true := decide_eq_true c6); clear c6; (obtain rfl := Option.some.inj H); go_wp2; go_ret; (exact ⟨by first | rfl | (simp; done) | (simp [*]; done), by repeat (first | exact Drawn0.refl _ | apply Drawn0.step)⟩)
     ·(rw [if_neg c6] at H); (have c6b0 : decide (t498 < 0) = false := decide_eq_false c6); clear c6; (have H' := A0_ H); clear H; go_wp2; (go_roundg k1)
      case measure => have := HK1.out; omega
      case rel => exact ⟨(t498), (wrap64 (x5_1 + 1)), (by first | rfl | (simp; done) | (simp [*]; done)), (by first | rfl | (simp; done) | (simp [*]; done)), H', ⟨by have := HK1.out; omega⟩, by repeat (first | exact Drawn0.refl _ | apply Drawn0.step)⟩
    ·(rw [if_neg c4] at H); (exact absurd H (by simp))
   ·(rw [if_neg c3] at H); (have c3b0 : decide (x5_1 < (l0.length : Int)) = false := decide_eq_false c3); clear c3; (obtain rfl := Option.some.inj H); go_wp2; go_ret; (exact ⟨by first | rfl | (simp; done) | (simp [*]; done), by repeat (first | exact Drawn0.refl _ | apply Drawn0.step)⟩)
end Go.Proofs.YtoglcgnbkibpgaaDoor.A

/- Marks of rows of rows: what is written, and that it is held. -/
namespace Go.Proofs.YtoglcgnbkibpgaaDoor.A
set_option linter.unusedSimpArgs false
set_option linter.unusedVariables false
open Go.RowKit Go.Proofs.YtoglcgnbkibpgaaDoorW.PrintWords Go.Proofs.YtoglcgnbkibpgaaDoorW.PrintLast Go.Proofs.YtoglcgnbkibpgaaDoorW.PrintMore
/-- Numbers from a on, in rows as long as the given ones. -/
def marksL : Int → List (List Int) → List (List Int)
  | _, [] => []
  | a, r :: rs => ints a r.length :: marksL (a + (r.length : Int)) rs
theorem marksL_len : ∀ (rows : List (List Int)) (a : Int), (marksL a rows).length = rows.length
  | [], _ => rfl
  | r :: rs, a => by simp [marksL, marksL_len rs]
theorem tot_cons' (r : List Int) (rs : List (List Int)) : tot (r :: rs) = (r.length : Int) + tot rs := by unfold tot; simp
theorem marksL_at : ∀ (rows : List (List Int)) (a : Int) (i : Nat) (h : i < rows.length), (marksL a rows)[i]? = some (ints (a + tot (rows.take i)) rows[i].length)
  | r :: rs, a, 0, h => by simp [marksL, tot]
  | r :: rs, a, i + 1, h => by
    simp only [marksL, List.getElem?_cons_succ, List.getElem_cons_succ, List.take_succ_cons]
    rw [marksL_at rs _ i (by simpa using h), tot_cons']
    congr 2
    omega
theorem heldInts_ev' (a : Int) (n : Nat) (h0 : 0 ≤ a) (h : a + n ≤ 1000000000000) : Ev (fun k => laws_heldInt64S.f k (ints a n) a) (a + (n : Int)) := by
  unfold laws_heldInt64S.f
  refine ev_at n (fun (s : Int) j => s = a + (j : Int)) (a + (n : Int)) (fun s i k => laws_heldInt64S.l0 k (ints a n) s i) (fun s hi => ?_) (fun s j hj hi => ?_) a (by simp)
  · exact Ev.step (f := fun _ => some s) (fun k => by simp only [laws_heldInt64S.l0]; rw [if_neg (by rw [ints_len]; omega)]) (by rw [hi]; exact Ev.now _)
  · refine ⟨s + 1, by omega, fun h2 => Ev.step (fun k => ?_) h2⟩
    have hg : (ints a n)[j]'(by rw [ints_len]; exact hj) = a + j := by simp [ints]
    simp only [laws_heldInt64S.l0]
    rw [if_pos (by rw [ints_len]; omega), if_pos (by omega), if_pos (by rw [rd_nat _ j (by rw [ints_len]; omega), hg]; omega), wrap_succ j (by omega), show wrap64 (s + 1) = s + 1 from by unfold wrap64; omega]
theorem heldMarks_ev (rows : List (List Int)) (a : Int) (h0 : 0 ≤ a) (h : a + tot rows ≤ 1000000000000) (hl : rows.length ≤ 1048576) : Ev (fun k => laws_heldInt64SS.f k (marksL a rows) a) (a + tot rows) := by
  unfold laws_heldInt64SS.f
  refine ev_at rows.length (fun (s : Int) j => s = a + tot (rows.take j)) (a + tot rows) (fun s i k => laws_heldInt64SS.l0 k (marksL a rows) s i) (fun s hi => ?_) (fun s j hj hi => ?_) a (by simp [tot])
  · rw [List.take_length] at hi
    exact Ev.step (f := fun _ => some s) (fun k => by simp only [laws_heldInt64SS.l0]; rw [if_neg (by rw [marksL_len]; omega)]) (by rw [hi]; exact Ev.now _)
  · have hn := tot_next rows j hj
    have h1 := tot_le rows (j + 1)
    have h2 := tot_le rows j
    refine ⟨a + tot (rows.take (j + 1)), rfl, fun h3 => Ev.succ ?_⟩
    have hg : rd_L1 (marksL a rows) (j : Int) = ints (a + tot (rows.take j)) rows[j].length := by
      unfold rd_L1
      rw [List.getD_eq_getElem?_getD, Int.toNat_natCast, marksL_at rows a j hj]
      rfl
    simp only [laws_heldInt64SS.l0, show (j : Int) < ((marksL a rows).length : Int) from by rw [marksL_len]; omega, show (0 : Int) ≤ (j : Int) from by omega, if_true, hg, wrap_succ j (by omega)]
    rw [hi]
    refine Ev.bind (heldInts_ev' (a + tot (rows.take j)) rows[j].length (by omega) (by omega)) ?_
    simp only [show ¬ (a + tot (rows.take j) + (rows[j].length : Int) < 0) from by omega, if_false]
    rw [show a + tot (rows.take j) + (rows[j].length : Int) = a + tot (rows.take (j + 1)) from by omega]
    exact h3
set_option maxHeartbeats 1000000 in
set_option maxRecDepth 100000 in
theorem laws_markInt64SS.calls2 (rows : List (List Int)) (fp : Nat → Prop) (u : Value) (a : Int) (w0 w : World) (hB : Below w0.heap.size w0 w) (hS : Kd.S kL 32 w w0.heap.size fp u rows) (h0 : 0 ≤ a) (h1 : a + tot rows ≤ 1000000000000) (hl : rows.length ≤ 1048576) (hr : ∀ r ∈ rows, r.length ≤ 1048576) :
    Calls Tryd.prog 33 #[u, .int .i64 a] w fun e w' => e = .returned (.int .i64 (a + tot rows)) ∧ Kd.S kL 32 w' w0.heap.size (fun k => fp k ∨ w.heap.size ≤ k) u (marksL a rows) ∧ Below w0.heap.size w0 w' ∧ Kept w w' fp := by
  obtain ⟨A, c, rfl⟩ := Kd.S_slice hS
  have HS := A0_ (Kd.S_mono (ok' := fun k => fp k ∨ w.heap.size ≤ k) hS (fun k hk => .inl hk))
  have HB := A0_ hB
  have HK := A0_ (Kept.refl w fp)
  have HA := A0_ (And.intro h0 h1)
  have HL := A0_ hl
  have HR := A0_ hr
  clear hS hB h0 h1 hl hr
  go_enter Tryd.func33, Tryd.ntmps33
  go_wp2
  go_loopg [1, 5] (rows.length + 1) (fun kq v1 v5 w' => ∃ (i : Nat) (rs : List (List Int)), v5 = .int .i64 (i : Int) ∧ v1 = .int .i64 (a + tot (rows.take i)) ∧ Aside0 (i ≤ rows.length ∧ kq + i = rows.length + 1 ∧ rs.length = rows.length ∧ (∀ j, i ≤ j → rs[j]? = rows[j]?) ∧ ∀ j, j < i → rs[j]? = (marksL a rows)[j]?) ∧ Aside0 (Kd.S kL 32 w' w0.heap.size (fun k => fp k ∨ w.heap.size ≤ k) (.slice A rows.length c) rs) ∧ Aside0 (Below w0.heap.size w0 w') ∧ Aside0 (Kept w w' fp))
  case atStart => exact ⟨0, rows, rfl, by simp [tot], ⟨by omega, by omega, rfl, fun _ _ => rfl, fun j hj => by omega⟩, HS, HB, HK⟩
  case round =>
    clear HS HB HK
    obtain ⟨i, rs, rfl, rfl, HX, HS, HB, HK⟩ := hrel
    obtain ⟨k1, rfl⟩ : ∃ k1, gk = k1 + 1 := ⟨gk - 1, by have := HX.out; omega⟩
    by_cases ci : i < rows.length
    · have ci0 : decide (i < rows.length) = true := decide_eq_true ci
      have ci1 := eq_true ci
      have hrl := HX.out.2.2.1
      obtain ⟨g, cap, e, hgb, hgl, _⟩ := Kd.S_form HS.out (by omega)
      rw [hrl] at e
      injection e with e1 e2 e3
      subst e1 e3
      obtain ⟨oki, cc, hcl, hM, hcc, hfr, hoki, hH⟩ := Kd.S_elem HS.out [] (i : Int) (by omega) (by omega)
      have hget : rs.getD (i : Int).toNat [] = rows[i] := by
        rw [Int.toNat_natCast, List.getD_eq_getElem?_getD, HX.out.2.2.2.1 i (Nat.le_refl i), List.getElem?_eq_getElem ci]; rfl
      rw [hget] at hM
      obtain ⟨v, rfl, hRv⟩ := hM
      obtain ⟨A2, c2, rfl⟩ := Kd.R_slice hRv
      have hcell := hcc 0 _ rfl
      have ez : (i : Int).toNat * kL.sz + 0 = i := by show (i : Int).toNat * 1 + 0 = i; omega
      rw [ez] at hcell
      obtain ⟨r, hrr⟩ : ∃ r, r = rows[i] := ⟨_, rfl⟩
      have htn := tot_next rows i ci
      rw [← hrr] at hRv hcell htn hH
      have HTN := A0_ htn
      have HMJ := A0_ (show (marksL a rows)[i]? = some (ints (a + tot (rows.take i)) r.length) by rw [hrr]; exact marksL_at rows a i ci)
      have hrlen : r.length ≤ 1048576 := hrr ▸ HR.out _ (List.getElem_mem ci)
      have htl := tot_le rows i
      have htl2 := tot_le rows (i + 1)
      obtain ⟨km, hkm⟩ := (markInt64S_ev r (a + tot (rows.take i)) hrlen (by have := HA.out; omega) (by have := HA.out; omega)).rounds
      have HKM := A0_ hkm
      have HRV := A0_ hRv
      have HWI := A0_ (wrap_succ i (by have := HL.out; omega))
      have HH := A0_ hH
      have HOK := A0_ hoki
      have HC := A0_ ci
      have p0 : ((i : Int) < (rows.length : Int)) = True := eq_true (by omega)
      clear hkm hRv hH hoki hcl hcc hfr hget hrr htn htl htl2 hrlen ci
      go_wp2_with (first
        | (go_at_call 21; refine (laws_markInt64S.calls km oki _ r (a + tot (rows.take i)) _ _ w0 _ HB.out HRV.out HKM.out).mono ?_; rintro e w1 ⟨rfl, ho, hb, hk⟩; have HO := A0_ ho; have HB1 := A0_ hb; have HKK := A0_ hk; clear ho hb hk))
      go_roundg k1
      case measure => omega
      case rel =>
        rw [HWI.out]
        refine ⟨i + 1, rs.set i (ints (a + tot (rows.take i)) r.length), rfl, by rw [HTN.out]; congr 1; omega, ⟨by have := HC.out; omega, by have := HX.out; omega, by rw [List.length_set]; exact HX.out.2.2.1, fun j hj => by rw [List.getElem?_set_ne (by omega)]; exact HX.out.2.2.2.1 j (by omega), fun j hj => by
          by_cases e : j = i
          · subst e; rw [List.getElem?_set_self (by rw [HX.out.2.2.1]; exact HC.out), HMJ.out]
          · rw [List.getElem?_set_ne (Ne.symm e)]; exact HX.out.2.2.2.2 j (by omega)⟩, ⟨?_⟩, HB1, ⟨?_⟩⟩
        · have hw := Kd.H_widen HH.out
          have hk2 := Kd.H_kept hw HKK.out (fun k _ hn hs => hn (.inl hs))
          have := Kd.H_back hk2 (x' := ints (a + tot (rows.take i)) r.length) ⟨_, rfl, Kd.R_mono (ok' := fun k => oki k ∨ (fp k ∨ w.heap.size ≤ k) ∧ wr.heap.size ≤ k) HO.out (fun k hk => hk.elim .inl (fun h => .inr ⟨.inr (Nat.le_trans HK.out.1 h), h⟩))⟩ (fun _ h => h)
          rw [Int.toNat_natCast] at this
          exact this
        · exact Kept.then_ HK.out HKK.out (fun k hk => (HOK.out k hk).1)
    · have ci0 : decide (i < rows.length) = false := decide_eq_false ci
      have hi : i = rows.length := by have := HX.out; omega
      have HI := A0_ hi
      clear ci hi
      go_wp2
      go_ret
      have e : rs = marksL a rows := List.ext_getElem? (fun j => by
        by_cases c : j < rows.length
        · exact HX.out.2.2.2.2 j (by rw [HI.out]; exact c)
        · rw [List.getElem?_eq_none (by rw [HX.out.2.2.1]; omega), List.getElem?_eq_none (by rw [marksL_len]; omega)])
      exact ⟨by rw [HI.out, List.take_length]; rfl, e ▸ HS.out, HB.out, HK.out⟩
end Go.Proofs.YtoglcgnbkibpgaaDoor.A

/- The law FnExactAllCovers, walked as one straight line over separate resources. -/
namespace Go.Proofs.YtoglcgnbkibpgaaDoor.A
open Go.RowKit Go.Proofs.YtoglcgnbkibpgaaDoorW.PrintWords Go.Proofs.YtoglcgnbkibpgaaDoorW.PrintLast Go.Proofs.YtoglcgnbkibpgaaDoorW.PrintMore Go.Proofs.YtoglcgnbkibpgaaDoorW.Cov Go.Proofs.YtoglcgnbkibpgaaDoorW.Tree
set_option linter.unusedVariables false
set_option linter.unusedSimpArgs false
def lawAllCovers.T10 : Bool × List (List Nat × List Nat) := (true, [([], []), ([], []), ([1], [1]), ([0, 2, 2], [0, 2]), ([3], [3])])
def lawAllCovers.B10 : List Nat := [0, 0, 2, 7, 15]
theorem lawAllCovers.tab10 : rtab .any (opsOf Tryd.f8 10) = lawAllCovers.T10 := by kernel_rfl
theorem lawAllCovers.bits10 : waitsOk lawAllCovers.T10.2 lawAllCovers.B10 = true := by kernel_rfl
set_option maxHeartbeats 4000000 in
set_option maxRecDepth 100000 in
theorem lawAllCovers_good (a0_0 a0_1 : Int) (A0_2 : Option Addr) (c0_2 : Nat) (l : List (List Int)) (w : World) (hr : kL.C w A0_2 l.length l) (hc : l.length ≤ c0_2) (hT : TabAt 0 Lib.deBruijn64tab w) (KK : Nat) (hsz : laws_szCover.f KK a0_0 a0_1 l 1048576 = some (szL l)) (hpos : ¬ szL l < 0) (hz : sizesOk l) (hto : laws_toCover.f KK a0_0 a0_1 l = some (a0_0, a0_1, l)) (x : List (List Int)) (cd : Int) (hx : allOut a0_0 a0_1 l = (x, cd)) (hxl : sizesOk x) (hxt : 0 ≤ tot x ∧ tot x ≤ 1048576) (heq : laws_eqInt64SS.f KK x x = some true) (htot : 0 ≤ tot l ∧ tot l ≤ 1048576) (hhd : laws_heldInt64SS.f KK (marksL 1 x) 1 = some (1 + tot x)) (heqC : laws_eqCover.f KK a0_0 a0_1 l a0_0 a0_1 l = some true) :
    Calls Tryd.prog 8 #[.agg #[.int .i64 a0_0, .int .i64 a0_1, .slice A0_2 l.length c0_2]] w fun e w' => e = .returned (.bool true) ∧ Below w.heap.size w w' := by
  have hu24 := Tryd.underlying24
  have hu28 := Tryd.underlying28
  have HR := A0_ hr
  have HT := A0_ hT
  have HSZ := A0_ hsz
  have HZ := A0_ hz
  have HTO := A0_ hto
  have HXL := A0_ hxl
  have HXT := A0_ hxt
  have HEQ := A0_ heq
  have HEC := A0_ heqC
  have HTOT := A0_ htot
  have HHD := A0_ hhd
  have hp1 : decide (1 + tot l < 0) = false := decide_eq_false (by omega)
  have hp2 : decide (1 + tot x < 0) = false := decide_eq_false (by omega)
  have HSP := A0_ (show spec_AllCovers.f 0 a0_0 a0_1 l = some (x, cd) by unfold spec_AllCovers.f; rw [if_pos hz, hx])
  have HIM := A0_ (show impl_AllCovers.f 0 a0_0 a0_1 l = some (x, cd) by unfold impl_AllCovers.f; rw [if_pos hz, hx])
  have hp0 : decide (szL l < 0) = false := decide_eq_false hpos
  obtain ⟨gb, hgb⟩ : ∃ gb, gb = w.heap.size := ⟨_, rfl⟩
  have HGB := A0_ hgb.symm
  obtain ⟨wb, hwb⟩ : ∃ wb, wb = w.alloc (.cells #[.int .i64 a0_0, .int .i64 a0_1, .slice A0_2 l.length c0_2] 24) := ⟨_, rfl⟩
  have HWB := A0_ hwb.symm
  have HS0 := A0_ (show Sp w [Res.blk gb #[.int .i64 a0_0, .int .i64 a0_1, .slice A0_2 l.length c0_2] 24] wb from by rw [hwb, hgb]; exact Sp.box (Sp.start w) _ 24)
  clear htot hhd hr hT hsz hz hto hxl hxt heq heqC hx hgb hwb hpos
  go_enter Tryd.func8, Tryd.ntmps8
  go_wp2_with (first
    | (go_at_call 10; rw [HWB.out, HGB.out]; refine (laws_szCover.calls KK a0_0 a0_1 A0_2 c0_2 l 1048576 (szL l) _ (Kd.C_below HR.out HS0.out.below) hc HSZ.out).mono ?_; rintro e w1 ⟨rfl, hb⟩; have HS1 := A0_ (Sp.far HS0.out hb); clear HS0 hb HWB;
       have hb0 := (blk_cell (Sp.blk HS1.out (i := 0) rfl).1 0).trans rfl; have hb1 := (blk_cell (Sp.blk HS1.out (i := 0) rfl).1 1).trans rfl; have hb2 := (blk_cell (Sp.blk HS1.out (i := 0) rfl).1 2).trans rfl)
    | (go_at_call 12; refine (laws_toCover.calls KK a0_0 a0_1 A0_2 c0_2 l a0_0 a0_1 l _ (Kd.C_below HR.out HS1.out.below) hc HTO.out).mono ?_; rintro e w2 ⟨v2, rfl, hs, hb⟩; have HS2 := A0_ (Sp.madeS HS1.out hb hs); clear HS1 hb hs hb0 hb1 hb2; obtain ⟨A2, c2, ev⟩ := Sp.sliceS HS2.out (i := 0) rfl; subst ev)
    | (go_at_call 30; refine (spec_AllCovers.calls 0 a0_0 a0_1 A2 c2 l x cd _ (Sp.readsS HS2.out (i := 0) rfl).2.2 (Sp.readsS HS2.out (i := 0) rfl).2.1 HSP.out).mono ?_; rintro e w3 ⟨v3, rfl, ho, hb⟩; have HS3 := A0_ (Sp.madeS HS2.out hb ho); clear HS2 hb ho; obtain ⟨A3, c3, ev⟩ := Sp.sliceS HS3.out (i := 0) rfl; subst ev;
       have hb0 := (blk_cell (Sp.blk HS3.out (i := 2) rfl).1 0).trans rfl; have hb1 := (blk_cell (Sp.blk HS3.out (i := 2) rfl).1 1).trans rfl; have hb2 := (blk_cell (Sp.blk HS3.out (i := 2) rfl).1 2).trans rfl)
    | (go_at_call 12; refine (laws_toCover.calls KK a0_0 a0_1 A0_2 c0_2 l a0_0 a0_1 l _ (Kd.C_below HR.out HS3.out.below) hc HTO.out).mono ?_; rintro e w4 ⟨v4, rfl, hs, hb⟩; have HS4 := A0_ (Sp.madeS HS3.out hb hs); clear HS3 hb hs hb0 hb1 hb2; obtain ⟨A4, c4, ev⟩ := Sp.sliceS HS4.out (i := 0) rfl; subst ev)
    | (go_at_call 31; obtain ⟨gx, hgx⟩ : ∃ gx, gx = w4.heap.size := ⟨_, rfl⟩; obtain ⟨wx, hwx⟩ : ∃ wx, wx = w4.alloc (.cells #[.int .i64 a0_0, .int .i64 a0_1, .slice A4 l.length c4] 28) := ⟨_, rfl⟩; rw [← hwx, ← hgx]; have HS5 := A0_ (Sp.box HS4.out #[.int .i64 a0_0, .int .i64 a0_1, .slice A4 l.length c4] 28); rw [← hwx, ← hgx] at HS5; clear HS4 hwx hgx; refine (impl_AllCovers.calls 0 a0_0 a0_1 A4 c4 l x cd _ (Sp.readsS HS5.out (i := 1) rfl).2.2 (Sp.readsS HS5.out (i := 1) rfl).2.1 HIM.out (fun j hj => pw_cell_below HS5.out.below (HT.out j hj))).mono ?_; rintro e w5 ⟨v5, rfl, ho, hb⟩; have HS6 := A0_ (Sp.madeS HS5.out hb ho); clear HS5 hb ho; obtain ⟨A5, c5, ev⟩ := Sp.sliceS HS6.out (i := 0) rfl; subst ev)
    | (go_at_call 32; refine (laws_eqInt64SS.calls KK A5 c5 x A3 c3 x true _ (Sp.readsS HS6.out (i := 0) rfl).2.2 (Sp.readsS HS6.out (i := 0) rfl).2.1 (Sp.readsS HS6.out (i := 3) rfl).2.2 (Sp.readsS HS6.out (i := 3) rfl).2.1 HEQ.out).mono ?_; rintro e w6 ⟨rfl, hd⟩; have HS7 := A0_ (Sp.far HS6.out hd.below); clear HS6 hd))
  have HS := A0_ (show Sp w ([Res.rowS kL 32 w.heap.size (.slice A5 x.length c5) x, Res.blk gx #[.int .i64 a0_0, .int .i64 a0_1, .slice A4 l.length c4] 28, Res.rowS kL 32 w.heap.size (.slice A4 l.length c4) l, Res.rowS kL 32 w.heap.size (.slice A3 x.length c3) x, Res.rowS kL 32 w.heap.size (.slice A2 l.length c2) l, Res.blk gb #[.int .i64 a0_0, .int .i64 a0_1, .slice A0_2 l.length c0_2] 24] ++ ([] : List Res)) w6.drew from Sp.drew HS7.out)
  clear HS7
  refine start_ (n := 5) (S := fun w' => w'.cell? ⟨gx, 0, none⟩ = some (.int .i64 a0_0) ∧ w'.cell? ⟨gx, 1, none⟩ = some (.int .i64 a0_1) ∧ w'.cell? ⟨gx, 2, none⟩ = some (.slice A4 l.length c4) ∧ w'.cell? ⟨gb, 0, none⟩ = some (.int .i64 a0_0) ∧ w'.cell? ⟨gb, 1, none⟩ = some (.int .i64 a0_1) ∧ w'.cell? ⟨gb, 2, none⟩ = some (.slice A0_2 l.length c0_2)) (ds := []) #[false, false, false, false, false] (by kernel_rfl) rfl rfl (⟨(blk_cell (Sp.blk HS.out (i := 1) rfl).1 0).trans rfl, (blk_cell (Sp.blk HS.out (i := 1) rfl).1 1).trans rfl, (blk_cell (Sp.blk HS.out (i := 1) rfl).1 2).trans rfl, (blk_cell (Sp.blk HS.out (i := 5) rfl).1 0).trans rfl, (blk_cell (Sp.blk HS.out (i := 5) rfl).1 1).trans rfl, (blk_cell (Sp.blk HS.out (i := 5) rfl).1 2).trans rfl⟩) (fun hHeld => ?_)
  refine with_tabW lawAllCovers.tab10 lawAllCovers.bits10 (fun HT_ HW_ => ?_)
  generalize w6.drew = wD at HS hHeld ⊢
  refine take_ (i := 0) (N := some 41) (v := ?_) (a' := ?_) #[true, false, false, false, false] rfl rfl (take_ofW HT_.out HW_.out (by kernel_rfl)) (fun _ _ _ h => h) (Or.inl ⟨by rfl, ?_⟩) hHeld ?_ ?_
  rotate_left
  · rintro w' ⟨s0, s1, s2, s3, s4, s5⟩
    go_simp
    with_reducible rfl
  rotate_left
  · simp only [Act.put, List.setIfInBounds_toArray, List.set_cons_zero, List.set_cons_succ, i64_w, i32_w]
    rfl
  refine take_ (i := 1) (N := some 42) (v := ?_) (a' := ?_) #[true, true, false, false, false] rfl rfl (take_ofW HT_.out HW_.out (by kernel_rfl)) (fun _ _ _ h => h) (Or.inl ⟨by rfl, ?_⟩) hHeld ?_ ?_
  rotate_left
  · rintro w' ⟨s0, s1, s2, s3, s4, s5⟩
    go_simp
    with_reducible rfl
  rotate_left
  · simp only [Act.put, List.setIfInBounds_toArray, List.set_cons_zero, List.set_cons_succ, i64_w, i32_w]
    rfl
  refine one_ (i := 2) (N := some 43) #[true, true, true, false, false] rfl rfl (one_of HT_.out (by kernel_rfl)) (by decide) (fun K hK => ?_)
  refine goes_ Tryd.func12 (by kernel_rfl) rfl #[.agg #[.int .i64 a0_0, .int .i64 a0_1, .slice A0_2 l.length c0_2]] (by rfl) rfl rfl (by (try simp only [List.map_toArray, List.map_cons, List.map_nil]); first | done | rfl | (simp only [List.length_drop, List.length_take]; rfl)) ?_
  refine (laws_toCover.calls KK a0_0 a0_1 A0_2 c0_2 l a0_0 a0_1 l _ (Kd.C_below HR.out HS.out.below) hc HTO.out).mono ?_
  rintro e w7 ⟨v7, rfl, hs_, hb⟩
  refine ⟨_, rfl, ?_⟩
  have HS_ := A0_ (Sp.madeS HS.out hb hs_)
  clear HS
  have HS := HS_
  clear HS_
  clear hb hs_
  obtain ⟨A7, c7, ev⟩ := Sp.sliceS HS.out (i := 0) rfl
  subst ev
  refine hK.out _ _ (⟨(blk_cell (Sp.blk HS.out (i := 2) rfl).1 0).trans rfl, (blk_cell (Sp.blk HS.out (i := 2) rfl).1 1).trans rfl, (blk_cell (Sp.blk HS.out (i := 2) rfl).1 2).trans rfl, (blk_cell (Sp.blk HS.out (i := 6) rfl).1 0).trans rfl, (blk_cell (Sp.blk HS.out (i := 6) rfl).1 1).trans rfl, (blk_cell (Sp.blk HS.out (i := 6) rfl).1 2).trans rfl⟩) (fun hHeld => ?_)
  clear hK K
  refine norm_ (a' := ?_) ?_ ?_
  rotate_left
  · show Act.put _ (some 43) _ = _
    simp only [Act.put, List.setIfInBounds_toArray, List.set_cons_zero, List.set_cons_succ, i64_w, i32_w]
    rfl
  refine one_ (i := 3) (N := some 44) #[true, true, true, true, false] rfl rfl (one_of HT_.out (by kernel_rfl)) (by decide) (fun K hK => ?_)
  refine goes_ Tryd.func14 (by kernel_rfl) rfl #[.agg #[.int .i64 a0_0, .int .i64 a0_1, .slice A4 l.length c4], .agg #[.int .i64 a0_0, .int .i64 a0_1, .slice A7 l.length c7]] (by rfl) rfl rfl (by (try simp only [List.map_toArray, List.map_cons, List.map_nil]); first | done | rfl | (simp only [List.length_drop, List.length_take]; rfl)) ?_
  refine (laws_eqCover.calls KK a0_0 a0_1 A4 c4 l a0_0 a0_1 A7 c7 l true _ (Sp.readsS HS.out (i := 3) rfl).2.2 (Sp.readsS HS.out (i := 3) rfl).2.1 (Sp.readsS HS.out (i := 0) rfl).2.2 (Sp.readsS HS.out (i := 0) rfl).2.1 HEC.out).mono ?_
  rintro e w8 ⟨rfl, hb⟩
  refine ⟨_, rfl, ?_⟩
  have HS_ := A0_ (Sp.far HS.out hb)
  clear HS
  have HS := HS_
  clear HS_
  clear hb
  refine hK.out _ _ (⟨(blk_cell (Sp.blk HS.out (i := 2) rfl).1 0).trans rfl, (blk_cell (Sp.blk HS.out (i := 2) rfl).1 1).trans rfl, (blk_cell (Sp.blk HS.out (i := 2) rfl).1 2).trans rfl, (blk_cell (Sp.blk HS.out (i := 6) rfl).1 0).trans rfl, (blk_cell (Sp.blk HS.out (i := 6) rfl).1 1).trans rfl, (blk_cell (Sp.blk HS.out (i := 6) rfl).1 2).trans rfl⟩) (fun hHeld => ?_)
  clear hK K
  refine norm_ (a' := ?_) ?_ ?_
  rotate_left
  · show Act.put _ (some 44) _ = _
    simp only [Act.put, List.setIfInBounds_toArray, List.set_cons_zero, List.set_cons_succ, i64_w, i32_w]
    rfl
  refine pure_ (i := 4) (N := some 45) (v := ?_) (a' := ?_) #[true, true, true, true, true] rfl rfl (any_of HT_.out (by kernel_rfl)) (fun _ _ _ h => h) (Or.inl ⟨by rfl, ?_⟩) ?_ ?_
  rotate_left
  · intro w'
    go_simp
    with_reducible rfl
  rotate_left
  · simp only [Act.put, List.setIfInBounds_toArray, List.set_cons_zero, List.set_cons_succ, i64_w, i32_w]
    rfl
  refine done_ (done_of HT_.out (by kernel_rfl)) ?_
  have hx0 := (blk_cell (Sp.blk HS.out (i := 2) rfl).1 0).trans rfl
  have hx1 := (blk_cell (Sp.blk HS.out (i := 2) rfl).1 1).trans rfl
  have hx2 := (blk_cell (Sp.blk HS.out (i := 2) rfl).1 2).trans rfl
  go_wp2_with (first
    | (go_at_call 20; obtain ⟨fp_, hs_, hc_⟩ := Sp.markS HS.out (i := 3) rfl; refine (laws_markCover.calls' a0_0 a0_1 l fp_ A4 l.length c4 1 w _ HS.out.below hs_ (by decide) (by have := HTOT.out; omega) HZ.out.1 HZ.out.2).mono ?_; rintro e w9 ⟨rfl, rows', hs2, hb, hk⟩; have HS9 := A0_ (hc_ _ _ hs2 hb hk); clear HS hs_ hc_ hs2 hb hk hx0 hx1 hx2)
    | (go_at_call 32; refine (laws_eqInt64SS.calls KK A5 c5 x A3 c3 x true _ (Sp.readsS HS9.out (i := 1) rfl).2.2 (Sp.readsS HS9.out (i := 1) rfl).2.1 (Sp.readsS HS9.out (i := 4) rfl).2.2 (Sp.readsS HS9.out (i := 4) rfl).2.1 HEQ.out).mono ?_; rintro e w10 ⟨rfl, hd⟩; have HS10 := A0_ (Sp.far HS9.out hd.below); clear HS9 hd)
    | (go_at_call 33; obtain ⟨fp_, hs_, hc_⟩ := Sp.markS HS10.out (i := 1) rfl; refine (laws_markInt64SS.calls2 x fp_ _ 1 w _ HS10.out.below hs_ (by decide) (by have := HXT.out; omega) HXL.out.1 HXL.out.2).mono ?_; rintro e w11 ⟨rfl, hs2, hb, hk⟩; have HS11 := A0_ (hc_ _ _ hs2 hb hk); clear HS10 hs_ hc_ hs2 hb hk)
    | (go_at_call 34; have hh_ := laws_heldInt64SS.calls KK A5 c5 (marksL 1 x) 1 (1 + tot x) w11 (Sp.readsS HS11.out (i := 1) rfl).2.2 (by rw [marksL_len]; exact (Sp.readsS HS11.out (i := 1) rfl).2.1) HHD.out; rw [marksL_len] at hh_; refine hh_.mono ?_; rintro e w12 ⟨rfl, hd⟩; have HS12 := A0_ (Sp.far HS11.out hd.below); clear HS11 hd hh_; (try clear hb0 hb1 hb2); have hb0 := (blk_cell (Sp.blk HS12.out (i := 6) rfl).1 0).trans rfl; have hb1 := (blk_cell (Sp.blk HS12.out (i := 6) rfl).1 1).trans rfl; have hb2 := (blk_cell (Sp.blk HS12.out (i := 6) rfl).1 2).trans rfl)
    | (go_at_call 12; refine (laws_toCover.calls KK a0_0 a0_1 A0_2 c0_2 l a0_0 a0_1 l _ (Kd.C_below HR.out HS12.out.below) hc HTO.out).mono ?_; rintro e w13 ⟨v13, rfl, hs, hb⟩; have HS13 := A0_ (Sp.madeS HS12.out hb hs); clear HS12 hb hs hb0 hb1 hb2; obtain ⟨A13, c13, ev⟩ := Sp.sliceS HS13.out (i := 0) rfl; subst ev)
    | (go_at_call 31; refine (impl_AllCovers.calls 0 a0_0 a0_1 A13 c13 l x cd _ (Sp.readsS HS13.out (i := 0) rfl).2.2 (Sp.readsS HS13.out (i := 0) rfl).2.1 HIM.out (fun j hj => pw_cell_below HS13.out.below (HT.out j hj))).mono ?_; rintro e w14 ⟨v14, rfl, ho, hb⟩; have HS14 := A0_ (Sp.madeS HS13.out hb ho); clear HS13 hb ho; obtain ⟨A14, c14, ev⟩ := Sp.sliceS HS14.out (i := 0) rfl; subst ev)
    | (go_at_call 32; refine (laws_eqInt64SS.calls KK A14 c14 x A3 c3 x true _ (Sp.readsS HS14.out (i := 0) rfl).2.2 (Sp.readsS HS14.out (i := 0) rfl).2.1 (Sp.readsS HS14.out (i := 6) rfl).2.2 (Sp.readsS HS14.out (i := 6) rfl).2.1 HEQ.out).mono ?_; rintro e w15 ⟨rfl, hd⟩; have HS15 := A0_ (Sp.far HS14.out hd.below); clear HS14 hd)
    | (go_at_call 34; have hh_ := laws_heldInt64SS.calls KK A5 c5 (marksL 1 x) 1 (1 + tot x) w15 (Sp.readsS HS15.out (i := 3) rfl).2.2 (by rw [marksL_len]; exact (Sp.readsS HS15.out (i := 3) rfl).2.1) HHD.out; rw [marksL_len] at hh_; refine hh_.mono ?_; rintro e w16 ⟨rfl, hd⟩; have HS16 := A0_ (Sp.far HS15.out hd.below); clear HS15 hd hh_; (try clear hb0 hb1 hb2); have hb0 := (blk_cell (Sp.blk HS16.out (i := 8) rfl).1 0).trans rfl; have hb1 := (blk_cell (Sp.blk HS16.out (i := 8) rfl).1 1).trans rfl; have hb2 := (blk_cell (Sp.blk HS16.out (i := 8) rfl).1 2).trans rfl))
  go_ret
  exact ⟨rfl, HS16.out.below⟩
end Go.Proofs.YtoglcgnbkibpgaaDoor.A

/- The law FnExactFirstCover, walked as one straight line over separate resources. -/
namespace Go.Proofs.YtoglcgnbkibpgaaDoor.A
open Go.RowKit Go.Proofs.YtoglcgnbkibpgaaDoorW.PrintWords Go.Proofs.YtoglcgnbkibpgaaDoorW.PrintLast Go.Proofs.YtoglcgnbkibpgaaDoorW.PrintMore Go.Proofs.YtoglcgnbkibpgaaDoorW.Cov Go.Proofs.YtoglcgnbkibpgaaDoorW.Tree
set_option linter.unusedVariables false
set_option linter.unusedSimpArgs false
def lawFst.T10 : Bool × List (List Nat × List Nat) := (true, [([], []), ([], []), ([1], [1]), ([0, 2, 2], [0, 2]), ([3], [3])])
def lawFst.B10 : List Nat := [0, 0, 2, 7, 15]
theorem lawFst.tab10 : rtab .any (opsOf Tryd.f5 10) = lawFst.T10 := by kernel_rfl
theorem lawFst.bits10 : waitsOk lawFst.T10.2 lawFst.B10 = true := by kernel_rfl
end Go.Proofs.YtoglcgnbkibpgaaDoor.A

/- The law FnExactFirstCover: its contract. -/
namespace Go.Proofs.YtoglcgnbkibpgaaDoor.A
open Go.RowKit Go.Proofs.YtoglcgnbkibpgaaDoorW.PrintWords Go.Proofs.YtoglcgnbkibpgaaDoorW.PrintLast Go.Proofs.YtoglcgnbkibpgaaDoorW.PrintMore Go.Proofs.YtoglcgnbkibpgaaDoorW.Cov Go.Proofs.YtoglcgnbkibpgaaDoorW.Tree
set_option linter.unusedVariables false
set_option linter.unusedSimpArgs false
theorem tot_cons (r : List Int) (rs : List (List Int)) : tot (r :: rs) = (r.length : Int) + tot rs := by unfold tot; simp
theorem szV_tot : ∀ (rows : List (List Int)) (a : Int), 0 ≤ szV rows a → tot rows ≤ a
  | [], a, h => h
  | r :: rs, a, h => by
    unfold szV at h
    split at h
    · omega
    · have := szV_tot rs _ h
      rw [tot_cons]
      omega
theorem tot_nn (rows : List (List Int)) : 0 ≤ tot rows := by unfold tot; omega
theorem szL_tot (rows : List (List Int)) (h : ¬ szL rows < 0) : 0 ≤ tot rows ∧ tot rows ≤ 1048576 := by
  refine ⟨tot_nn rows, ?_⟩
  unfold szL at h
  split at h
  · omega
  · have := szV_tot rows (1048576 - (rows.length : Int)) (by omega)
    omega
end Go.Proofs.YtoglcgnbkibpgaaDoor.A

/- The law FnExactAllCovers: its contract. -/
namespace Go.Proofs.YtoglcgnbkibpgaaDoor.A
open Go.RowKit Go.Proofs.YtoglcgnbkibpgaaDoorW.PrintWords Go.Proofs.YtoglcgnbkibpgaaDoorW.PrintLast Go.Proofs.YtoglcgnbkibpgaaDoorW.PrintMore Go.Proofs.YtoglcgnbkibpgaaDoorW.Cov Go.Proofs.YtoglcgnbkibpgaaDoorW.Tree
set_option linter.unusedVariables false
set_option linter.unusedSimpArgs false
theorem tot_bound (rows : List (List Int)) (h : ∀ r ∈ rows, r.length ≤ 60) : tot rows ≤ 60 * (rows.length : Int) := by
  induction rows with
  | nil => simp [tot]
  | cons r rs ih =>
    have := ih (fun x hx => h x (by simp [hx]))
    have := h r (by simp)
    rw [tot_cons, List.length_cons]
    push_cast
    omega
theorem allOut_len (C Q : Int) (rows : List (List Int)) : (allOut C Q rows).1.length ≤ 200 ∧ ∀ r ∈ (allOut C Q rows).1, r.length ≤ 60 := by
  unfold allOut
  by_cases c : coverOk C Q rows = true
  · rw [if_pos c]
    have hf := found_nodup (coverOk_spec c) 20000 20001
    change ∀ x ∈ (nodesR rows Q).found, _ at hf
    split
    · simp
    · split
      · simp
      · rename_i h
        refine ⟨by dsimp only; rw [List.length_map]; omega, fun r hr => ?_⟩
        dsimp only at hr
        rw [List.mem_map] at hr
        obtain ⟨s, hs, rfl⟩ := hr
        rw [sortL_len]
        exact (hf s hs).2.1
  · rw [if_neg c]
    simp
set_option maxHeartbeats 1000000 in
set_option maxRecDepth 100000 in
theorem lawAllCovers_bad (a0_0 a0_1 : Int) (A0_2 : Option Addr) (c0_2 : Nat) (l : List (List Int)) (w : World) (hr : kL.C w A0_2 l.length l) (hc : l.length ≤ c0_2) (KK : Nat) (hsz : laws_szCover.f KK a0_0 a0_1 l 1048576 = some (-1)) :
    Calls Tryd.prog 8 #[.agg #[.int .i64 a0_0, .int .i64 a0_1, .slice A0_2 l.length c0_2]] w fun e w' => e = .returned (.bool true) ∧ Below w.heap.size w w' := by
  have hu24 := Tryd.underlying24
  have hu28 := Tryd.underlying28
  have HR := A0_ hr
  have HSZ := A0_ hsz
  have HB0 := A0_ (below_alloc (Below.refl w.heap.size w) (.cells #[.int .i64 a0_0, .int .i64 a0_1, .slice A0_2 l.length c0_2] 24))
  clear hr hsz
  go_enter Tryd.func8, Tryd.ntmps8
  go_wp2_with (first
    | (go_at_call 10; refine (laws_szCover.calls KK a0_0 a0_1 A0_2 c0_2 l 1048576 (-1) _ (Kd.C_below HR.out HB0.out) hc HSZ.out).mono ?_; rintro e w1 ⟨rfl, hb⟩; have HB := A0_ (below_step HB0.out hb); clear hb))
  go_ret
  exact ⟨rfl, HB.out⟩
open Classical in
/-- What the law answers, where its input is of a size that a machine has. -/
noncomputable def laws_FnExactAllCovers.f (k : Nat) (a0_0 a0_1 : Int) (l : List (List Int)) : Option Bool := if Go.Proofs.YtoglcgnbkibpgaaDoor.Opn.okAll (Go.Proofs.YtoglcgnbkibpgaaDoor.Opn.okAll (Go.Proofs.YtoglcgnbkibpgaaDoor.Opn.okInt .i64)) l then some true else none
theorem laws_FnExactAllCovers.calls (k : Nat) (a0_0 a0_1 : Int) (A0_2 : Option Addr) (c0_2 : Nat) (l : List (List Int)) (r : Bool) (w : World) (hr : Kd.C (Kd.slice 2 (Kd.int .i64)) w A0_2 l.length l) (hc : l.length ≤ c0_2) (hT : TabAt 0 Lib.deBruijn64tab w) (h : laws_FnExactAllCovers.f k a0_0 a0_1 l = some r) :
    Calls Tryd.prog 8 #[.agg #[.int .i64 a0_0, .int .i64 a0_1, .slice A0_2 l.length c0_2]] w fun e w' => e = .returned (.bool r) ∧ Below w.heap.size w w' := by
  unfold laws_FnExactAllCovers.f at h
  split at h
  case isFalse => cases h
  rename_i hok
  obtain rfl := Option.some.inj h
  obtain ⟨K1, h1⟩ := szCover_ev a0_0 a0_1 l hok
  by_cases c : szL l < 0
  · rw [if_pos c] at h1
    exact lawAllCovers_bad a0_0 a0_1 A0_2 c0_2 l w hr hc K1 (h1 K1 (Nat.le_refl _))
  · rw [if_neg c] at h1
    have hz := szL_ok l c
    obtain ⟨x, cd, hx⟩ : ∃ x cd, allOut a0_0 a0_1 l = (x, cd) := ⟨_, _, rfl⟩
    have hxl0 := allOut_len a0_0 a0_1 l
    rw [hx] at hxl0
    obtain ⟨hx1, hx2⟩ := hxl0
    dsimp only at hx1 hx2
    have hxl : sizesOk x := ⟨by omega, fun r hr => by have := hx2 r hr; omega⟩
    have hxt : 0 ≤ tot x ∧ tot x ≤ 1048576 := ⟨tot_nn x, by have := tot_bound x hx2; omega⟩
    obtain ⟨K2, h2⟩ := toCover_ev a0_0 a0_1 l hz
    obtain ⟨K3, h3⟩ := eqInt64SS_ev x hxl
    obtain ⟨K4, h4⟩ := eqCover_ev a0_0 a0_1 l hz
    obtain ⟨K6, h6⟩ := heldMarks_ev x 1 (by decide) (by have := hxt.2; omega) hxl.1
    exact lawAllCovers_good a0_0 a0_1 A0_2 c0_2 l w hr hc hT (K1 + K2 + K3 + K4 + K6) (h1 _ (by omega)) c hz (h2 _ (by omega)) x cd hx hxl hxt (h3 _ (by omega)) (szL_tot l c) (h6 _ (by omega)) (h4 _ (by omega))
end Go.Proofs.YtoglcgnbkibpgaaDoor.A

/- The kind of the laws' instances. -/
namespace Go.Proofs.YtoglcgnbkibpgaaDoor.A
open Go.RowKit Go.Proofs.YtoglcgnbkibpgaaDoorW.PrintWords Go.Proofs.YtoglcgnbkibpgaaDoorW.PrintLast Go.Proofs.YtoglcgnbkibpgaaDoorW.PrintMore
structure S24 where
  f0 : Int
  f1 : Int
  f2 : List (List Int)
def k24 : Kd S24 := Kd.iso (Kd.pair (Kd.int .i64) (Kd.pair (Kd.int .i64) (Kd.slice 32 (Kd.slice 2 (Kd.int .i64))))) (fun x : S24 => (x.f0, x.f1, x.f2))
theorem k24_open {w : World} {x : S24} {cs : List Value} (h : k24.K w x cs) : ∃ A c, cs = [.int .i64 x.f0, .int .i64 x.f1, .slice A x.f2.length c] ∧ x.f2.length ≤ c ∧ Kd.C (Kd.slice 2 (Kd.int .i64)) w A x.f2.length x.f2 := by
  obtain ⟨_, _, rfl, rfl, ⟨_, _, rfl, rfl, ⟨A, c, rfl, hc, hr⟩⟩⟩ := h
  exact ⟨A, c, rfl, hc, hr⟩
end Go.Proofs.YtoglcgnbkibpgaaDoor.A

/- The plain statement of the law FnExactAllCovers, over numbers and lists alone, and how its arguments are opened. -/
namespace Go.Proofs.YtoglcgnbkibpgaaDoor.A
open Go.RowKit Go.Proofs.YtoglcgnbkibpgaaDoorW.PrintWords Go.Proofs.YtoglcgnbkibpgaaDoorW.PrintLast Go.Proofs.YtoglcgnbkibpgaaDoorW.PrintMore
def ok24 (x : S24) : Prop := (Go.Proofs.YtoglcgnbkibpgaaDoor.Opn.okTwo (Go.Proofs.YtoglcgnbkibpgaaDoor.Opn.okInt .i64) (Go.Proofs.YtoglcgnbkibpgaaDoor.Opn.okTwo (Go.Proofs.YtoglcgnbkibpgaaDoor.Opn.okInt .i64) (Go.Proofs.YtoglcgnbkibpgaaDoor.Opn.okAll (Go.Proofs.YtoglcgnbkibpgaaDoor.Opn.okAll (Go.Proofs.YtoglcgnbkibpgaaDoor.Opn.okInt .i64))))) (x.f0, x.f1, x.f2)
theorem op2 : Go.Proofs.YtoglcgnbkibpgaaDoor.Opn.Op Tryd.prog 2 (Kd.int .i64) (Go.Proofs.YtoglcgnbkibpgaaDoor.Opn.okInt .i64) := Go.Proofs.YtoglcgnbkibpgaaDoor.Opn.Op.int Tryd.underlying2
theorem op32 : Go.Proofs.YtoglcgnbkibpgaaDoor.Opn.Op Tryd.prog 32 (Kd.slice 2 (Kd.int .i64)) (Go.Proofs.YtoglcgnbkibpgaaDoor.Opn.okAll (Go.Proofs.YtoglcgnbkibpgaaDoor.Opn.okInt .i64)) := Go.Proofs.YtoglcgnbkibpgaaDoor.Opn.Op.slice Tryd.underlying32 (by kernel_rfl) op2
theorem op22 : Go.Proofs.YtoglcgnbkibpgaaDoor.Opn.Op Tryd.prog 22 (Kd.slice 32 (Kd.slice 2 (Kd.int .i64))) (Go.Proofs.YtoglcgnbkibpgaaDoor.Opn.okAll (Go.Proofs.YtoglcgnbkibpgaaDoor.Opn.okAll (Go.Proofs.YtoglcgnbkibpgaaDoor.Opn.okInt .i64))) := Go.Proofs.YtoglcgnbkibpgaaDoor.Opn.Op.slice Tryd.underlying22 (by kernel_rfl) op32
theorem op24 : Go.Proofs.YtoglcgnbkibpgaaDoor.Opn.Op Tryd.prog 24 k24 ok24 := Go.Proofs.YtoglcgnbkibpgaaDoor.Opn.Op.iso (Go.Proofs.YtoglcgnbkibpgaaDoor.Opn.Op.struct Tryd.underlying24 (by kernel_rfl) (Go.Proofs.YtoglcgnbkibpgaaDoor.Opn.OpF.cons rfl (by kernel_rfl) op2 (Go.Proofs.YtoglcgnbkibpgaaDoor.Opn.OpF.cons rfl (by kernel_rfl) op2 (Go.Proofs.YtoglcgnbkibpgaaDoor.Opn.OpF.one rfl (by kernel_rfl) op22)))) (fun x : S24 => (x.f0, x.f1, x.f2)) (fun p => ⟨p.1, p.2.1, p.2.2⟩) (fun _ => rfl)
def FnExactAllCovers.Pure : Prop := ∀ (a0 : S24), ok24 a0 → ∃ k, laws_FnExactAllCovers.f k (a0.f0) (a0.f1) (a0.f2) = some true
end Go.Proofs.YtoglcgnbkibpgaaDoor.A

/- AllCovers: the law's contract answers true. -/
namespace Go.Proofs.YtoglcgnbkibpgaaDoor.Pure
open Go.RowKit Go.Proofs.YtoglcgnbkibpgaaDoorW.PrintWords Go.Proofs.YtoglcgnbkibpgaaDoorW.PrintLast Go.Proofs.YtoglcgnbkibpgaaDoorW.PrintMore Go.Proofs.YtoglcgnbkibpgaaDoor.A
theorem FnExactAllCovers : Go.Proofs.YtoglcgnbkibpgaaDoor.A.FnExactAllCovers.Pure := by
  intro a0 hok
  refine ⟨0, ?_⟩
  unfold laws_FnExactAllCovers.f
  exact if_pos hok.2.2
end Go.Proofs.YtoglcgnbkibpgaaDoor.Pure

