/- What the row of the law FnExactGreedyStages stands on, part 4. -/
import Derived.Test.YtlbckkagjekhnaaMFnExactGreedyStages3
namespace Go.Proofs.Ytlbckkagjekhnaa.A
open Go.RowKit Go.Proofs.YtlbckkagjekhnaaW.PrintWords Go.Proofs.YtlbckkagjekhnaaW.PrintLast Go.Proofs.YtlbckkagjekhnaaW.PrintMore
set_option linter.unusedVariables false
set_option linter.unusedSimpArgs false
theorem Sp.cbCells {w0 w : World} {rs : List Res} {i base n c : Nat} {ad : Addr} {xs : List Cb} (h : Sp w0 rs w) (hi : rs[i]? = some (Res.row kC 69 base (.slice (some ad) n c) xs)) (k : Nat) (hk : k < xs.length) :
    w.cell? (ad.add (k * 3)) = some (.int .i64 (cAt xs k).f0) ∧ w.cell? ⟨(ad.add (k * 3)).block, (ad.add (k * 3)).off + 1, none⟩ = some (.int .i64 (cAt xs k).f1) ∧ w.cell? ⟨(ad.add (k * 3)).block, (ad.add (k * 3)).off + 2, none⟩ = some (.int .i64 (cAt xs k).f2) := by
 (obtain ⟨ad2, e, h0, h1, h2⟩ := at_T69 (Sp.reads h hi).2.2 (k : Int) (by omega) (by omega)); (injection e with e); subst e; (exact ⟨h0, h1, h2⟩)
def spec_l09Connected.f (k : Nat) (l : List Cb) : Option Bool := if 1 ≤ l.length ∧ l.length ≤ 1048576 then some (conP l) else none
theorem sindex_at (l : List Cb) (x : Cb) (h : l.length ≤ 1048576) : ∃ (K : Nat) (r : Int), decide (r ≥ 0) = l.contains x ∧ spec_l09Index.f K l x.f0 x.f1 x.f2 = some r := by
 (obtain ⟨r, h1, h2⟩ := sindex_ev l x h); (obtain ⟨K, hK⟩ := h2.rounds); (exact ⟨K, r, h1, hK⟩)
def conF.T8 : Bool × List (List Nat × List Nat) := (true, [([], []), ([], []), ([0, 1], [0, 1]), ([2], [2]), ([], []), ([], []), ([4, 5], [4, 5]), ([6], [6]), ([3, 7, 4], [3, 7]), ([], []), ([9, 8, 8, 0, 1, 2, 3, 4, 5, 6, 7, 8, 9], [8, 9])])
def conF.B8 : List Nat := [0, 0, 3, 7, 0, 0, 48, 112, 255, 0, 1023]
theorem conF.tab8 : rtab .any (opsOf Try.f77 8) = conF.T8 := by kernel_rfl
theorem conF.bits8 : waitsOk conF.T8.2 conF.B8 = true := by kernel_rfl
set_option maxHeartbeats 4000000 in
set_option maxRecDepth 100000 in
theorem spec_l09Connected.calls (k : Nat) (A0 : Option Addr) (c0 : Nat) (l0 : List Cb) (r : Bool) (w : World) (hr0 : Kd.C k69 w A0 l0.length l0) (hc0 : l0.length ≤ c0) (h : spec_l09Connected.f k l0 = some r) :
    Calls Try.prog 77 #[.slice A0 l0.length c0] w fun e w' => e = .returned (.bool r) ∧ Below w.heap.size w w' := by
 (have hu69 := Try.underlying69); (unfold spec_l09Connected.f at h); (split at h)
 case isFalse => cases h
 (rename_i hz); (have HRR := A0_ (show conP l0 = r from Option.some.inj h)); (have HR0 := A0_ hr0); (have HC0 := A0_ hc0); (have HZ := A0_ hz)
 have HIX := A0_ (fun (l : List Cb) (x : Cb) (hl : l.length ≤ 1048576) => sindex_at l x hl)
 (have HS := A0_ (Sp.start w)); (have HST := A0_ (FitO.start hz.1)); clear hr0 hc0 hz h; (obtain ⟨ad0, e0, hx0, hx1, hx2⟩ := at_T69 HR0.out 0 (by omega) (by have := HZ.out.1; omega)); subst e0; (rw [show rd_T69 l0 0 = cAt l0 0 from rfl] at hx0 hx1 hx2); (rw [show (0 : Int).toNat * 3 = 0 from rfl, Addr.add_zero'] at hx0 hx1 hx2); (have q0 : (0 < l0.length) = True := eq_true (by have := HZ.out.1; omega)); (have q1 : ((0 : Int) < (l0.length : Int)) = True := eq_true (by have := HZ.out.1; omega)); (obtain ⟨cf, hcf⟩ : ∃ cf, cf = cAt l0 0 := ⟨_, rfl⟩); (rw [← hcf] at hx0 hx1 hx2 HST); (have HCF := A0_ hcf); clear hcf; (rw [← HRR.out]); clear HRR; (have HFIN := A0_ (show conP l0 = decide ((bfsO l0 (l0.length + 1 - 0) [cf] 0).length = l0.length) by rw [HCF.out]; rfl)); (go_enter Try.func77, Try.ntmps77)
 go_wp2_with (first
  | ((with_reducible refine gate_dst (N := 10) rfl ?_); refine Kd.R_lit kC _ 69 ?hg (N := 10) ?hd (xs := [cf]) (inner := [.int .i64 cf.f0, .int .i64 cf.f1, .int .i64 cf.f2]) (ok := fun _ => True) (okp := fun _ => True) ?hr ?hp (fun _ hk => hk) trivial (Below.refl _ _) (Nat.le_refl _) (by simp) ?_; (case hd => rfl); (case hg => rfl); (case hr => first | (go_simp; done) | (go_simp; rfl)); (case hp => exact (Reps.c3 (show Kd.M kC _ _ _ cf [.int .i64 cf.f0, .int .i64 cf.f1, .int .i64 cf.f2] from k69_mkM _ _ _ cf) (Reps.none _ _))); intro vl_ wl_ ho_ hb_ hg_ hn_; clear hg_ hn_; replace HS := A0_ (Sp.made' HS.out hb_ ho_); clear ho_ hb_; obtain ⟨Al, cl, ev_⟩ := Sp.slice HS.out (i := 0) rfl; subst ev_; clear hx0 hx1 hx2))
 go_loopg [3, 4] (l0.length + 2) (fun kq v3 v4 w' => ∃ (k : Nat) (o : List Cb) (A : Option Addr) (ca : Nat), v4 = .int .i64 (k : Int) ∧ v3 = .slice A o.length ca ∧ Aside0 (k ≤ o.length ∧ FitO l0 o ∧ kq + k = l0.length + 2) ∧ Aside0 (conP l0 = decide ((bfsO l0 (l0.length + 1 - k) o k).length = l0.length)) ∧ Aside0 (Sp w ([Res.row kC 69 w.heap.size (.slice A o.length ca) o]) w'))
 case atStart => exact ⟨0, [cf], Al, cl, rfl, rfl, ⟨by simp, HST.out, by omega⟩, HFIN, HS⟩
 case round =>
  clear HS HFIN HST; (obtain ⟨k, o, A, ca, rfl, rfl, HX, HFIN, HS⟩ := hrel); (obtain ⟨k1, rfl⟩ : ∃ k1, gk = k1 + 1 := ⟨gk - 1, by have := HX.out; have := HX.out.2.1.len; omega⟩); (by_cases ck : k < o.length)
  ·(have ck0 : decide (k < o.length) = true := decide_eq_true ck); (have HW := A0_ (wrap_succ k (by have := HX.out.2.1.len; have := HZ.out.2; omega))); (have HPR := A0_ (expI_pre l0 o (cAt o k) k ck))
   have HFT := A0_ (fun i hi => FitO.exp HX.out.2.1 (cAt o k) i hi)
   have HNX := A0_ (show bfsO l0 (l0.length + 1 - k) o k = bfsO l0 (l0.length + 1 - (k + 1)) (expI l0 o (cAt o k) 6) (k + 1) by
    (have h1 := HX.out.2.1.len); (rw [show l0.length + 1 - k = (l0.length + 1 - (k + 1)) + 1 from by omega]); (exact if_pos ck))
   (obtain ⟨c, hc⟩ : ∃ c, c = cAt o k := ⟨_, rfl⟩); (rw [← hc] at HPR HFT HNX); clear ck hc; go_wp2
   go_loopg [3, 5] 7 (fun kq v3 v5 w' => ∃ (i : Nat) (A : Option Addr) (ca : Nat), v5 = .int .i64 (i : Int) ∧ v3 = .slice A (expI l0 o c i).length ca ∧ Aside0 (i ≤ 6 ∧ kq + i = 7) ∧ Aside0 (Sp w ([Res.row kC 69 w.heap.size (.slice A (expI l0 o c i).length ca) (expI l0 o c i)]) w'))
   case atStart => exact ⟨0, A, ca, rfl, rfl, ⟨by omega, by omega⟩, HS⟩
   case round =>
    clear HS; (obtain ⟨i, A, ca, rfl, rfl, HY, HS⟩ := hrel); (obtain ⟨k2, rfl⟩ : ∃ k2, gk = k2 + 1 := ⟨gk - 1, by have := HY.out; omega⟩); (by_cases ci : i < 6)
    ·(have ci0 : decide (i < 6) = true := decide_eq_true ci); (have ci1 : (i < 6) = True := eq_true ci); (have ci2 : decide ((i : Int) < 6) = true := decide_eq_true (by omega)); (have ci3 : ((i : Int) < 6) = True := eq_true (by omega)); (have HI6 := A0_ ci); (have HWI := A0_ (wrap_succ i (by omega))); (have HPI := HPR.out i (by omega)); (have HKX := A0_ HPI.1); (have HOA := A0_ HPI.2); (have HFI := A0_ (HFT.out i (by omega))); (have HES := A0_ (expI_succ l0 o c i ci)); (obtain ⟨si, hsi⟩ : ∃ si, si = cAt stepsC i := ⟨_, rfl⟩); (have HSI0 := A0_ hsi.symm); (rw [← hsi] at HES); clear hsi HPI ci; (obtain ⟨x, hx⟩ : ∃ x, x = addC c si := ⟨_, rfl⟩); (have q0 : (0 ≤ (k : Int)) = True := eq_true (by omega)); (have q1 : ((k : Int) < ((expI l0 o c i).length : Int)) = True := eq_true (by have := HKX.out; omega)); (have q2 : (k < (expI l0 o c i).length) = True := eq_true HKX.out); (have q3 : (0 ≤ (i : Int)) = True := eq_true (by omega)); (have q4 : ((i : Int) < ((stepsC).length : Int)) = True := eq_true (by have := HI6.out; rw [show (stepsC).length = 6 from rfl]; omega)); (have q5 : (i < (stepsC).length) = True := eq_true HI6.out)
     obtain ⟨ado, hado⟩ : ∃ ado, A = some ado := by
      (obtain ⟨ad2, e, _⟩ := at_T69 (Sp.reads HS.out (i := 0) rfl).2.2 (k : Int) (by omega) (by have := HKX.out; omega)); (exact ⟨ad2, e⟩)
     subst hado
     (replace HS := A0_ (show Sp w ([Res.row kC 69 w.heap.size (.slice (some ado) (expI l0 o c i).length ca) (expI l0 o c i)] ++ ([] : List Res)) wr.drew from Sp.drew HS.out)); go_wp2
     refine start_ (n := 11) (S := fun w' => w'.cell? (ado.add (k * 3)) = some (.int .i64 c.f0) ∧ w'.cell? ⟨(ado.add (k * 3)).block, (ado.add (k * 3)).off + 1, none⟩ = some (.int .i64 c.f1) ∧ w'.cell? ⟨(ado.add (k * 3)).block, (ado.add (k * 3)).off + 2, none⟩ = some (.int .i64 c.f2)) (ds := []) #[ff,ff,ff,ff,ff,ff,ff,ff,ff,ff,ff] (by kernel_rfl) rfl rfl (⟨((HOA.out ▸ Sp.cbCells HS.out (i := 0) rfl k HKX.out).1), ((HOA.out ▸ Sp.cbCells HS.out (i := 0) rfl k HKX.out).2.1), ((HOA.out ▸ Sp.cbCells HS.out (i := 0) rfl k HKX.out).2.2)⟩) (fun hHeld => ?_)
     refine with_tabW conF.tab8 conF.bits8 (fun HT_ HW_ => ?_)
     (generalize wr.drew = wD at HS hHeld ⊢); (refine on_ 0 (some 21) ?_); (refine on_ 1 (some 22) ?_); (refine on_ 2 (some 23) ?_); (refine tk_ 3 (some 24) ?_); (refine on_ 5 (some 26) ?_)
     refine o2_ 4 9 (some 25) (some 6) (fun K hK => ?_) (fun K hK => ?_)
     ·(refine gs_ Try.func101 #[] ?_); (refine (spec_l09Steps.calls stepsC _ rfl).mono ?_); (rintro e wA11 ⟨vA11, rfl, ho, hb⟩); (refine ⟨_, rfl, ?_⟩); (replace HS := A0_ (Sp.made' HS.out hb ho)); clear hb ho; (obtain ⟨AA11, cA11, rfl⟩ := Sp.slice HS.out (i := 0) rfl); (obtain ⟨ads, es_, _⟩ := at_T69 (Sp.reads HS.out (i := 0) rfl).2.2 (0 : Int) (by omega) (by decide)); subst es_
      refine hK.out _ _ (⟨((HOA.out ▸ Sp.cbCells HS.out (i := 1) rfl k HKX.out).1), ((HOA.out ▸ Sp.cbCells HS.out (i := 1) rfl k HKX.out).2.1), ((HOA.out ▸ Sp.cbCells HS.out (i := 1) rfl k HKX.out).2.2)⟩) (fun hHeld => ?_)
      clear hK K; (refine nm_ (some 25) ?_); (refine on_ 6 (some 27) ?_)
      refine o2_ 7 9 (some 28) (some 6) (fun K hK => ?_) (fun K hK => ?_)
      ·(obtain ⟨hs0, hs1, hs2⟩ := Sp.cbCells HS.out (i := 0) rfl i HI6.out); (rw [HSI0.out] at hs0 hs1 hs2); (refine event_step (v := .agg #[.int .i64 si.f0, .int .i64 si.f1, .int .i64 si.f2]) (w1 := wA11) (by rfl) (by first | (go_simp; done) | (go_simp; rfl)) ?_); clear hs0 hs1 hs2
       refine hK.out _ _ (⟨((HOA.out ▸ Sp.cbCells HS.out (i := 1) rfl k HKX.out).1), ((HOA.out ▸ Sp.cbCells HS.out (i := 1) rfl k HKX.out).2.1), ((HOA.out ▸ Sp.cbCells HS.out (i := 1) rfl k HKX.out).2.2)⟩) (fun hHeld => ?_)
       clear hK K; (refine nm_ (some 28) ?_)
       refine o2_ 8 9 (some 29) (some 6) (fun K hK => ?_) (fun K hK => ?_)
       ·(refine gs_ Try.func96 #[.agg #[.int .i64 c.f0, .int .i64 c.f1, .int .i64 c.f2], .agg #[.int .i64 si.f0, .int .i64 si.f1, .int .i64 si.f2]] ?_); (refine (spec_l09Add.calls c.f0 c.f1 c.f2 si.f0 si.f1 si.f2 (addC c si).f0 (addC c si).f1 (addC c si).f2 _ rfl).mono ?_); (rintro e wA12 ⟨rfl, hb⟩); (refine ⟨_, rfl, ?_⟩); (replace HS := A0_ (Sp.far HS.out hb)); clear hb
        refine hK.out _ _ (⟨((HOA.out ▸ Sp.cbCells HS.out (i := 1) rfl k HKX.out).1), ((HOA.out ▸ Sp.cbCells HS.out (i := 1) rfl k HKX.out).2.1), ((HOA.out ▸ Sp.cbCells HS.out (i := 1) rfl k HKX.out).2.2)⟩) (fun hHeld => ?_)
        clear hK K; (refine nm_ (some 29) ?_)
        refine o1_ 9 (some 6) (fun K hK => ?_)
        (refine event_step (v := .pointer (some ⟨wA12.heap.size, 0, none⟩)) (w1 := wA12.alloc (.cells #[.int .i64 0, .int .i64 0, .int .i64 0] 69)) (by rfl) (by first | (go_simp; done) | (go_simp; rfl)) ?_); (obtain ⟨gx, hg_⟩ : ∃ g_, g_ = (wA12).heap.size := ⟨_, rfl⟩); (obtain ⟨wB13, hw_⟩ : ∃ w_, w_ = World.alloc wA12 (.cells #[.int .i64 0, .int .i64 0, .int .i64 0] 69) := ⟨_, rfl⟩); (rw [← hw_, ← hg_]); (have HS_ := A0_ (Sp.box HS.out #[.int .i64 0, .int .i64 0, .int .i64 0] 69)); (rw [← hw_, ← hg_] at HS_); clear HS; (have HS := HS_); clear HS_ hw_ hg_
        refine hK.out _ _ (⟨((HOA.out ▸ Sp.cbCells HS.out (i := 2) rfl k HKX.out).1), ((HOA.out ▸ Sp.cbCells HS.out (i := 2) rfl k HKX.out).2.1), ((HOA.out ▸ Sp.cbCells HS.out (i := 2) rfl k HKX.out).2.2)⟩) (fun hHeld => ?_)
        clear hK K; (refine nm_ (some 6) ?_)
        refine o1_ 10 none (fun K hK => ?_)
        (refine skip_ (w1 := wB13.setCells gx 0 (#[.int .i64 (addC c si).f0, .int .i64 (addC c si).f1, .int .i64 (addC c si).f2] : Array Value).toList) (by rfl) rfl (exec_store (v := .pointer (some ⟨gx, 0, none⟩)) (u := .agg #[.int .i64 (addC c si).f0, .int .i64 (addC c si).f1, .int .i64 (addC c si).f2]) rfl (by first | rfl | (go_simp; done) | (go_simp; rfl)) (by first | rfl | (go_simp; done) | (go_simp; rfl)) (Sp.blkStore HS.out (i := 0) rfl (.agg #[.int .i64 (addC c si).f0, .int .i64 (addC c si).f1, .int .i64 (addC c si).f2]) (#[.int .i64 (addC c si).f0, .int .i64 (addC c si).f1, .int .i64 (addC c si).f2]) rfl rfl (by kernel_rfl) (by first | (simp; done) | (simp [Value.oneCell']; done) | (simp; exact ⟨rfl, rfl, rfl⟩)))) ?_); (obtain ⟨wS14, hw_⟩ : ∃ w_, w_ = wB13.setCells gx 0 (#[.int .i64 (addC c si).f0, .int .i64 (addC c si).f1, .int .i64 (addC c si).f2] : Array Value).toList := ⟨_, rfl⟩); (rw [← hw_]); (have HS_ := A0_ (Sp.blkAll HS.out (i := 0) rfl (#[.int .i64 (addC c si).f0, .int .i64 (addC c si).f1, .int .i64 (addC c si).f2]) rfl)); (rw [← hw_] at HS_); clear HS; (have HS := HS_); clear HS_ hw_
        refine hK.out _ _ (⟨((HOA.out ▸ Sp.cbCells HS.out (i := 2) rfl k HKX.out).1), ((HOA.out ▸ Sp.cbCells HS.out (i := 2) rfl k HKX.out).2.1), ((HOA.out ▸ Sp.cbCells HS.out (i := 2) rfl k HKX.out).2.2)⟩) (fun hHeld => ?_)
        clear hK K; (refine dn_ ?_); (replace HS := A0_ (Sp.arr (pre := [Res.blk gx #[.int .i64 (addC c si).f0, .int .i64 (addC c si).f1, .int .i64 (addC c si).f2] 69, Res.row kC 69 w.heap.size (.slice (some ads) (stepsC).length cA11) (stepsC), Res.row kC 69 w.heap.size (.slice (some ado) (expI l0 o c i).length ca) (expI l0 o c i)]) (pre' := [Res.blk gx #[.int .i64 (addC c si).f0, .int .i64 (addC c si).f1, .int .i64 (addC c si).f2] 69, Res.row kC 69 w.heap.size (.slice (some ado) (expI l0 o c i).length ca) (expI l0 o c i), Res.row kC 69 w.heap.size (.slice (some ads) (stepsC).length cA11) (stepsC)]) (rest := ([] : List Res)) [0, 2, 1] HS.out rfl rfl)); (rw [show addC c si = x from hx.symm] at HS); (have HX6 := A0_ hx); clear hx; (have hx0 := (cl_ HS 0 0 rfl).trans rfl); (have hx1 := (cl_ HS 0 1 rfl).trans rfl); (have hx2 := (cl_ HS 0 2 rfl).trans rfl); (obtain ⟨Ka, ra, ha, hKa⟩ := HIX.out l0 x HZ.out.2); (have HKA := A0_ hKa)
        cases c1 : l0.contains x with
        | false =>
         (rw [c1] at ha); (have n0_ : decide (0 ≤ ra) = false := ha); (have n1_ : (0 ≤ ra) = False := eq_false (of_decide_eq_false ha)); (have HN := A0_ (show expI l0 o c (i + 1) = expI l0 o c i by rw [HES.out, ← HX6.out]; unfold addO; rw [c1, Bool.false_and, if_neg (by simp)])); clear c1 ha
         go_wp2_with (first
          | (go_at_call 102; refine (spec_l09Index.calls Ka (some ad0) c0 l0 x.f0 x.f1 x.f2 ra _ (Kd.C_below HR0.out HS.out.below) HC0.out HKA.out).mono ?_; rintro e wc_ ⟨rfl, hd_⟩; replace HS := A0_ (Sp.far HS.out hd_); clear hd_ hx0 hx1 hx2 HKA; have hx0 := (cl_ HS 0 0 rfl).trans rfl; have hx1 := (cl_ HS 0 1 rfl).trans rfl; have hx2 := (cl_ HS 0 2 rfl).trans rfl))
         (replace HS := A0_ (show Sp w [Res.row kC 69 w.heap.size (.slice (some ado) (expI l0 o c i).length ca) (expI l0 o c i)] _ from Sp.tail (Sp.out HS.out 2))); (go_roundg k2)
         case measure => omega
         case rel =>
          (rw [HWI.out]); (exact ⟨i + 1, some ado, ca, rfl, by rw [HN.out], ⟨by have := HI6.out; omega, by have := HY.out; omega⟩, ⟨by rw [HN.out]; exact HS.out⟩⟩)
        | true =>
         (rw [c1] at ha); (have n0_ : decide (0 ≤ ra) = true := ha); (have n1_ : (0 ≤ ra) = True := eq_true (of_decide_eq_true ha)); (obtain ⟨Kb, rb, hb, hKb⟩ := HIX.out (expI l0 o c i) x (by have := HFI.out.len; have := HZ.out.2; omega)); (have HKB := A0_ hKb); clear ha hKb
         cases c2 : (expI l0 o c i).contains x with
         | true =>
          (rw [c2] at hb); (have m0_ : decide (rb < 0) = false := decide_eq_false (by have := of_decide_eq_true hb; omega)); (have m1_ : (rb < 0) = False := eq_false (by have := of_decide_eq_true hb; omega)); (have HN := A0_ (show expI l0 o c (i + 1) = expI l0 o c i by rw [HES.out, ← HX6.out]; unfold addO; rw [c1, c2, Bool.not_true, Bool.and_false, if_neg (by simp)])); clear c1 c2 hb
          go_wp2_with (first
           | (go_at_call 102; refine (spec_l09Index.calls Ka (some ad0) c0 l0 x.f0 x.f1 x.f2 ra _ (Kd.C_below HR0.out HS.out.below) HC0.out HKA.out).mono ?_; rintro e wc_ ⟨rfl, hd_⟩; replace HS := A0_ (Sp.far HS.out hd_); clear hd_ hx0 hx1 hx2 HKA; have hx0 := (cl_ HS 0 0 rfl).trans rfl; have hx1 := (cl_ HS 0 1 rfl).trans rfl; have hx2 := (cl_ HS 0 2 rfl).trans rfl)
           | (go_at_call 102; refine (spec_l09Index.calls Kb (some ado) ca (expI l0 o c i) x.f0 x.f1 x.f2 rb _ (Sp.reads HS.out (i := 1) rfl).2.2 (Sp.reads HS.out (i := 1) rfl).2.1 HKB.out).mono ?_; rintro e wc_ ⟨rfl, hd_⟩; replace HS := A0_ (Sp.far HS.out hd_); clear hd_ hx0 hx1 hx2 HKB; have hx0 := (cl_ HS 0 0 rfl).trans rfl; have hx1 := (cl_ HS 0 1 rfl).trans rfl; have hx2 := (cl_ HS 0 2 rfl).trans rfl))
          (replace HS := A0_ (show Sp w [Res.row kC 69 w.heap.size (.slice (some ado) (expI l0 o c i).length ca) (expI l0 o c i)] _ from Sp.tail (Sp.out HS.out 2))); (go_roundg k2)
          case measure => omega
          case rel =>
           (rw [HWI.out]); (exact ⟨i + 1, some ado, ca, rfl, by rw [HN.out], ⟨by have := HI6.out; omega, by have := HY.out; omega⟩, ⟨by rw [HN.out]; exact HS.out⟩⟩)
         | false =>
          (rw [c2] at hb); (have m0_ : decide (rb < 0) = true := decide_eq_true (by have := of_decide_eq_false hb; omega)); (have m1_ : (rb < 0) = True := eq_true (by have := of_decide_eq_false hb; omega)); (have HN := A0_ (show expI l0 o c (i + 1) = expI l0 o c i ++ [x] by rw [HES.out, ← HX6.out]; unfold addO; rw [c1, c2, Bool.not_false, Bool.and_true, if_pos rfl])); clear c1 c2 hb; (replace HS := A0_ (show Sp w [Res.blk gx #[.int .i64 x.f0, .int .i64 x.f1, .int .i64 x.f2] 69, Res.row kC 69 w.heap.size (.slice (some ado) (expI l0 o c i).length ca) (expI l0 o c i)] _ from Sp.out HS.out 2))
          go_wp2_with (first
           | (go_at_call 102; refine (spec_l09Index.calls Ka (some ad0) c0 l0 x.f0 x.f1 x.f2 ra _ (Kd.C_below HR0.out HS.out.below) HC0.out HKA.out).mono ?_; rintro e wc_ ⟨rfl, hd_⟩; replace HS := A0_ (Sp.far HS.out hd_); clear hd_ hx0 hx1 hx2 HKA; have hx0 := (cl_ HS 0 0 rfl).trans rfl; have hx1 := (cl_ HS 0 1 rfl).trans rfl; have hx2 := (cl_ HS 0 2 rfl).trans rfl)
           | (go_at_call 102; refine (spec_l09Index.calls Kb (some ado) ca (expI l0 o c i) x.f0 x.f1 x.f2 rb _ (Sp.reads HS.out (i := 1) rfl).2.2 (Sp.reads HS.out (i := 1) rfl).2.1 HKB.out).mono ?_; rintro e wc_ ⟨rfl, hd_⟩; replace HS := A0_ (Sp.far HS.out hd_); clear hd_ hx0 hx1 hx2 HKB; have hx0 := (cl_ HS 0 0 rfl).trans rfl; have hx1 := (cl_ HS 0 1 rfl).trans rfl; have hx2 := (cl_ HS 0 2 rfl).trans rfl)
           | ((with_reducible refine gate_dst (N := 42) rfl ?_); refine Kd.R_lit kC _ 69 ?hg (N := 42) ?hd (xs := [x]) (inner := [.int .i64 x.f0, .int .i64 x.f1, .int .i64 x.f2]) (ok := fun _ => True) (okp := fun _ => True) ?hr ?hp (fun _ hk => hk) trivial (Below.refl _ _) (Nat.le_refl _) (by simp) ?_; (case hd => rfl); (case hg => rfl); (case hr => first | (go_simp; done) | (go_simp; rfl)); (case hp => exact (Reps.c3 (show Kd.M kC _ _ _ x [.int .i64 x.f0, .int .i64 x.f1, .int .i64 x.f2] from k69_mkM _ _ _ x) (Reps.none _ _))); intro vl_ wl_ ho_ hb_ hg_ hn_; clear hg_ hn_; replace HS := A0_ (Sp.made' HS.out hb_ ho_); clear ho_ hb_; obtain ⟨Ax, cx, ev_⟩ := Sp.slice HS.out (i := 0) rfl; subst ev_; clear hx0 hx1 hx2)
           | ((with_reducible refine gate_builtin (b := .append) (xs := #[.tmp 40, .tmp 42]) rfl ?_); at_builtin; obtain ⟨fp_, ho_, hf_, hc_⟩ := Sp.row HS.out (i := 2) rfl; refine Kd.R_append_rows kC (w0 := w) w.heap.size rfl (.tmp 40) (.tmp 42) 34 69 ((.agg #[(.int .i64 0), (.int .i64 0), (.int .i64 0)])) 24 rfl Try.underlying34 info69 rfl (by decide) (by omega) (.slice (some ado) (expI l0 o c i).length ca) (expI l0 o c i) ([x]) _ _ _ _ (fun _ => False) rfl rfl ho_ ((Sp.reads HS.out (i := 0) rfl).2.2) (fun _ _ h => h) (fun _ h => h.elim) (fun _ h => Or.inr h) HS.out.below HS.out.below.size ?aL ?_; (case aL => have := HFI.out.len; have := HZ.out.2; simp only [List.length_cons, List.length_nil]; omega); intro va_ wa_ ho hb hg hat; replace HS := A0_ (hc_ _ _ _ ho hg); clear ho hb hg hat hc_ hf_ ho_ fp_; obtain ⟨A2, c2_, ev_⟩ := Sp.slice HS.out (i := 2) rfl; subst ev_; rw [← HN.out] at HS))
          (replace HS := A0_ (show Sp w [Res.row kC 69 w.heap.size (.slice A2 (expI l0 o c (i + 1)).length c2_) (expI l0 o c (i + 1))] _ from Sp.tail (Sp.tail HS.out))); (go_roundg k2)
          case measure => omega
          case rel =>
           (rw [HWI.out]); (exact ⟨i + 1, A2, c2_, rfl, by rw [HN.out, List.length_append]; rfl, ⟨by have := HI6.out; omega, by have := HY.out; omega⟩, HS⟩)
       ·(refine event_step (v := .pointer (some ⟨wA11.heap.size, 0, none⟩)) (w1 := wA11.alloc (.cells #[.int .i64 0, .int .i64 0, .int .i64 0] 69)) (by rfl) (by first | (go_simp; done) | (go_simp; rfl)) ?_); (obtain ⟨gx, hg_⟩ : ∃ g_, g_ = (wA11).heap.size := ⟨_, rfl⟩); (obtain ⟨wB12, hw_⟩ : ∃ w_, w_ = World.alloc wA11 (.cells #[.int .i64 0, .int .i64 0, .int .i64 0] 69) := ⟨_, rfl⟩); (rw [← hw_, ← hg_]); (have HS_ := A0_ (Sp.box HS.out #[.int .i64 0, .int .i64 0, .int .i64 0] 69)); (rw [← hw_, ← hg_] at HS_); clear HS; (have HS := HS_); clear HS_ hw_ hg_
        refine hK.out _ _ (⟨((HOA.out ▸ Sp.cbCells HS.out (i := 2) rfl k HKX.out).1), ((HOA.out ▸ Sp.cbCells HS.out (i := 2) rfl k HKX.out).2.1), ((HOA.out ▸ Sp.cbCells HS.out (i := 2) rfl k HKX.out).2.2)⟩) (fun hHeld => ?_)
        clear hK K; (refine nm_ (some 6) ?_)
        refine o1_ 8 (some 29) (fun K hK => ?_)
        (refine gs_ Try.func96 #[.agg #[.int .i64 c.f0, .int .i64 c.f1, .int .i64 c.f2], .agg #[.int .i64 si.f0, .int .i64 si.f1, .int .i64 si.f2]] ?_); (refine (spec_l09Add.calls c.f0 c.f1 c.f2 si.f0 si.f1 si.f2 (addC c si).f0 (addC c si).f1 (addC c si).f2 _ rfl).mono ?_); (rintro e wA13 ⟨rfl, hb⟩); (refine ⟨_, rfl, ?_⟩); (replace HS := A0_ (Sp.far HS.out hb)); clear hb
        refine hK.out _ _ (⟨((HOA.out ▸ Sp.cbCells HS.out (i := 2) rfl k HKX.out).1), ((HOA.out ▸ Sp.cbCells HS.out (i := 2) rfl k HKX.out).2.1), ((HOA.out ▸ Sp.cbCells HS.out (i := 2) rfl k HKX.out).2.2)⟩) (fun hHeld => ?_)
        clear hK K; (refine nm_ (some 29) ?_)
        refine o1_ 10 none (fun K hK => ?_)
        (refine skip_ (w1 := wA13.setCells gx 0 (#[.int .i64 (addC c si).f0, .int .i64 (addC c si).f1, .int .i64 (addC c si).f2] : Array Value).toList) (by rfl) rfl (exec_store (v := .pointer (some ⟨gx, 0, none⟩)) (u := .agg #[.int .i64 (addC c si).f0, .int .i64 (addC c si).f1, .int .i64 (addC c si).f2]) rfl (by first | rfl | (go_simp; done) | (go_simp; rfl)) (by first | rfl | (go_simp; done) | (go_simp; rfl)) (Sp.blkStore HS.out (i := 0) rfl (.agg #[.int .i64 (addC c si).f0, .int .i64 (addC c si).f1, .int .i64 (addC c si).f2]) (#[.int .i64 (addC c si).f0, .int .i64 (addC c si).f1, .int .i64 (addC c si).f2]) rfl rfl (by kernel_rfl) (by first | (simp; done) | (simp [Value.oneCell']; done) | (simp; exact ⟨rfl, rfl, rfl⟩)))) ?_); (obtain ⟨wS14, hw_⟩ : ∃ w_, w_ = wA13.setCells gx 0 (#[.int .i64 (addC c si).f0, .int .i64 (addC c si).f1, .int .i64 (addC c si).f2] : Array Value).toList := ⟨_, rfl⟩); (rw [← hw_]); (have HS_ := A0_ (Sp.blkAll HS.out (i := 0) rfl (#[.int .i64 (addC c si).f0, .int .i64 (addC c si).f1, .int .i64 (addC c si).f2]) rfl)); (rw [← hw_] at HS_); clear HS; (have HS := HS_); clear HS_ hw_
        refine hK.out _ _ (⟨((HOA.out ▸ Sp.cbCells HS.out (i := 2) rfl k HKX.out).1), ((HOA.out ▸ Sp.cbCells HS.out (i := 2) rfl k HKX.out).2.1), ((HOA.out ▸ Sp.cbCells HS.out (i := 2) rfl k HKX.out).2.2)⟩) (fun hHeld => ?_)
        clear hK K; (refine dn_ ?_); (replace HS := A0_ (Sp.arr (pre := [Res.blk gx #[.int .i64 (addC c si).f0, .int .i64 (addC c si).f1, .int .i64 (addC c si).f2] 69, Res.row kC 69 w.heap.size (.slice (some ads) (stepsC).length cA11) (stepsC), Res.row kC 69 w.heap.size (.slice (some ado) (expI l0 o c i).length ca) (expI l0 o c i)]) (pre' := [Res.blk gx #[.int .i64 (addC c si).f0, .int .i64 (addC c si).f1, .int .i64 (addC c si).f2] 69, Res.row kC 69 w.heap.size (.slice (some ado) (expI l0 o c i).length ca) (expI l0 o c i), Res.row kC 69 w.heap.size (.slice (some ads) (stepsC).length cA11) (stepsC)]) (rest := ([] : List Res)) [0, 2, 1] HS.out rfl rfl)); (rw [show addC c si = x from hx.symm] at HS); (have HX6 := A0_ hx); clear hx; (have hx0 := (cl_ HS 0 0 rfl).trans rfl); (have hx1 := (cl_ HS 0 1 rfl).trans rfl); (have hx2 := (cl_ HS 0 2 rfl).trans rfl); (obtain ⟨Ka, ra, ha, hKa⟩ := HIX.out l0 x HZ.out.2); (have HKA := A0_ hKa)
        cases c1 : l0.contains x with
        | false =>
         (rw [c1] at ha); (have n0_ : decide (0 ≤ ra) = false := ha); (have n1_ : (0 ≤ ra) = False := eq_false (of_decide_eq_false ha)); (have HN := A0_ (show expI l0 o c (i + 1) = expI l0 o c i by rw [HES.out, ← HX6.out]; unfold addO; rw [c1, Bool.false_and, if_neg (by simp)])); clear c1 ha
         go_wp2_with (first
          | (go_at_call 102; refine (spec_l09Index.calls Ka (some ad0) c0 l0 x.f0 x.f1 x.f2 ra _ (Kd.C_below HR0.out HS.out.below) HC0.out HKA.out).mono ?_; rintro e wc_ ⟨rfl, hd_⟩; replace HS := A0_ (Sp.far HS.out hd_); clear hd_ hx0 hx1 hx2 HKA; have hx0 := (cl_ HS 0 0 rfl).trans rfl; have hx1 := (cl_ HS 0 1 rfl).trans rfl; have hx2 := (cl_ HS 0 2 rfl).trans rfl))
         (replace HS := A0_ (show Sp w [Res.row kC 69 w.heap.size (.slice (some ado) (expI l0 o c i).length ca) (expI l0 o c i)] _ from Sp.tail (Sp.out HS.out 2))); (go_roundg k2)
         case measure => omega
         case rel =>
          (rw [HWI.out]); (exact ⟨i + 1, some ado, ca, rfl, by rw [HN.out], ⟨by have := HI6.out; omega, by have := HY.out; omega⟩, ⟨by rw [HN.out]; exact HS.out⟩⟩)
        | true =>
         (rw [c1] at ha); (have n0_ : decide (0 ≤ ra) = true := ha); (have n1_ : (0 ≤ ra) = True := eq_true (of_decide_eq_true ha)); (obtain ⟨Kb, rb, hb, hKb⟩ := HIX.out (expI l0 o c i) x (by have := HFI.out.len; have := HZ.out.2; omega)); (have HKB := A0_ hKb); clear ha hKb
         cases c2 : (expI l0 o c i).contains x with
         | true =>
          (rw [c2] at hb); (have m0_ : decide (rb < 0) = false := decide_eq_false (by have := of_decide_eq_true hb; omega)); (have m1_ : (rb < 0) = False := eq_false (by have := of_decide_eq_true hb; omega)); (have HN := A0_ (show expI l0 o c (i + 1) = expI l0 o c i by rw [HES.out, ← HX6.out]; unfold addO; rw [c1, c2, Bool.not_true, Bool.and_false, if_neg (by simp)])); clear c1 c2 hb
          go_wp2_with (first
           | (go_at_call 102; refine (spec_l09Index.calls Ka (some ad0) c0 l0 x.f0 x.f1 x.f2 ra _ (Kd.C_below HR0.out HS.out.below) HC0.out HKA.out).mono ?_; rintro e wc_ ⟨rfl, hd_⟩; replace HS := A0_ (Sp.far HS.out hd_); clear hd_ hx0 hx1 hx2 HKA; have hx0 := (cl_ HS 0 0 rfl).trans rfl; have hx1 := (cl_ HS 0 1 rfl).trans rfl; have hx2 := (cl_ HS 0 2 rfl).trans rfl)
           | (go_at_call 102; refine (spec_l09Index.calls Kb (some ado) ca (expI l0 o c i) x.f0 x.f1 x.f2 rb _ (Sp.reads HS.out (i := 1) rfl).2.2 (Sp.reads HS.out (i := 1) rfl).2.1 HKB.out).mono ?_; rintro e wc_ ⟨rfl, hd_⟩; replace HS := A0_ (Sp.far HS.out hd_); clear hd_ hx0 hx1 hx2 HKB; have hx0 := (cl_ HS 0 0 rfl).trans rfl; have hx1 := (cl_ HS 0 1 rfl).trans rfl; have hx2 := (cl_ HS 0 2 rfl).trans rfl))
          (replace HS := A0_ (show Sp w [Res.row kC 69 w.heap.size (.slice (some ado) (expI l0 o c i).length ca) (expI l0 o c i)] _ from Sp.tail (Sp.out HS.out 2))); (go_roundg k2)
          case measure => omega
          case rel =>
           (rw [HWI.out]); (exact ⟨i + 1, some ado, ca, rfl, by rw [HN.out], ⟨by have := HI6.out; omega, by have := HY.out; omega⟩, ⟨by rw [HN.out]; exact HS.out⟩⟩)
         | false =>
          (rw [c2] at hb); (have m0_ : decide (rb < 0) = true := decide_eq_true (by have := of_decide_eq_false hb; omega)); (have m1_ : (rb < 0) = True := eq_true (by have := of_decide_eq_false hb; omega)); (have HN := A0_ (show expI l0 o c (i + 1) = expI l0 o c i ++ [x] by rw [HES.out, ← HX6.out]; unfold addO; rw [c1, c2, Bool.not_false, Bool.and_true, if_pos rfl])); clear c1 c2 hb; (replace HS := A0_ (show Sp w [Res.blk gx #[.int .i64 x.f0, .int .i64 x.f1, .int .i64 x.f2] 69, Res.row kC 69 w.heap.size (.slice (some ado) (expI l0 o c i).length ca) (expI l0 o c i)] _ from Sp.out HS.out 2))
          go_wp2_with (first
           | (go_at_call 102; refine (spec_l09Index.calls Ka (some ad0) c0 l0 x.f0 x.f1 x.f2 ra _ (Kd.C_below HR0.out HS.out.below) HC0.out HKA.out).mono ?_; rintro e wc_ ⟨rfl, hd_⟩; replace HS := A0_ (Sp.far HS.out hd_); clear hd_ hx0 hx1 hx2 HKA; have hx0 := (cl_ HS 0 0 rfl).trans rfl; have hx1 := (cl_ HS 0 1 rfl).trans rfl; have hx2 := (cl_ HS 0 2 rfl).trans rfl)
           | (go_at_call 102; refine (spec_l09Index.calls Kb (some ado) ca (expI l0 o c i) x.f0 x.f1 x.f2 rb _ (Sp.reads HS.out (i := 1) rfl).2.2 (Sp.reads HS.out (i := 1) rfl).2.1 HKB.out).mono ?_; rintro e wc_ ⟨rfl, hd_⟩; replace HS := A0_ (Sp.far HS.out hd_); clear hd_ hx0 hx1 hx2 HKB; have hx0 := (cl_ HS 0 0 rfl).trans rfl; have hx1 := (cl_ HS 0 1 rfl).trans rfl; have hx2 := (cl_ HS 0 2 rfl).trans rfl)
           | ((with_reducible refine gate_dst (N := 42) rfl ?_); refine Kd.R_lit kC _ 69 ?hg (N := 42) ?hd (xs := [x]) (inner := [.int .i64 x.f0, .int .i64 x.f1, .int .i64 x.f2]) (ok := fun _ => True) (okp := fun _ => True) ?hr ?hp (fun _ hk => hk) trivial (Below.refl _ _) (Nat.le_refl _) (by simp) ?_; (case hd => rfl); (case hg => rfl); (case hr => first | (go_simp; done) | (go_simp; rfl)); (case hp => exact (Reps.c3 (show Kd.M kC _ _ _ x [.int .i64 x.f0, .int .i64 x.f1, .int .i64 x.f2] from k69_mkM _ _ _ x) (Reps.none _ _))); intro vl_ wl_ ho_ hb_ hg_ hn_; clear hg_ hn_; replace HS := A0_ (Sp.made' HS.out hb_ ho_); clear ho_ hb_; obtain ⟨Ax, cx, ev_⟩ := Sp.slice HS.out (i := 0) rfl; subst ev_; clear hx0 hx1 hx2)
           | ((with_reducible refine gate_builtin (b := .append) (xs := #[.tmp 40, .tmp 42]) rfl ?_); at_builtin; obtain ⟨fp_, ho_, hf_, hc_⟩ := Sp.row HS.out (i := 2) rfl; refine Kd.R_append_rows kC (w0 := w) w.heap.size rfl (.tmp 40) (.tmp 42) 34 69 ((.agg #[(.int .i64 0), (.int .i64 0), (.int .i64 0)])) 24 rfl Try.underlying34 info69 rfl (by decide) (by omega) (.slice (some ado) (expI l0 o c i).length ca) (expI l0 o c i) ([x]) _ _ _ _ (fun _ => False) rfl rfl ho_ ((Sp.reads HS.out (i := 0) rfl).2.2) (fun _ _ h => h) (fun _ h => h.elim) (fun _ h => Or.inr h) HS.out.below HS.out.below.size ?aL ?_; (case aL => have := HFI.out.len; have := HZ.out.2; simp only [List.length_cons, List.length_nil]; omega); intro va_ wa_ ho hb hg hat; replace HS := A0_ (hc_ _ _ _ ho hg); clear ho hb hg hat hc_ hf_ ho_ fp_; obtain ⟨A2, c2_, ev_⟩ := Sp.slice HS.out (i := 2) rfl; subst ev_; rw [← HN.out] at HS))
          (replace HS := A0_ (show Sp w [Res.row kC 69 w.heap.size (.slice A2 (expI l0 o c (i + 1)).length c2_) (expI l0 o c (i + 1))] _ from Sp.tail (Sp.tail HS.out))); (go_roundg k2)
          case measure => omega
          case rel =>
           (rw [HWI.out]); (exact ⟨i + 1, A2, c2_, rfl, by rw [HN.out, List.length_append]; rfl, ⟨by have := HI6.out; omega, by have := HY.out; omega⟩, HS⟩)
      ·(refine event_step (v := .pointer (some ⟨wA11.heap.size, 0, none⟩)) (w1 := wA11.alloc (.cells #[.int .i64 0, .int .i64 0, .int .i64 0] 69)) (by rfl) (by first | (go_simp; done) | (go_simp; rfl)) ?_); (obtain ⟨gx, hg_⟩ : ∃ g_, g_ = (wA11).heap.size := ⟨_, rfl⟩); (obtain ⟨wB12, hw_⟩ : ∃ w_, w_ = World.alloc wA11 (.cells #[.int .i64 0, .int .i64 0, .int .i64 0] 69) := ⟨_, rfl⟩); (rw [← hw_, ← hg_]); (have HS_ := A0_ (Sp.box HS.out #[.int .i64 0, .int .i64 0, .int .i64 0] 69)); (rw [← hw_, ← hg_] at HS_); clear HS; (have HS := HS_); clear HS_ hw_ hg_
       refine hK.out _ _ (⟨((HOA.out ▸ Sp.cbCells HS.out (i := 2) rfl k HKX.out).1), ((HOA.out ▸ Sp.cbCells HS.out (i := 2) rfl k HKX.out).2.1), ((HOA.out ▸ Sp.cbCells HS.out (i := 2) rfl k HKX.out).2.2)⟩) (fun hHeld => ?_)
       clear hK K; (refine nm_ (some 6) ?_)
       refine o1_ 7 (some 28) (fun K hK => ?_)
       (obtain ⟨hs0, hs1, hs2⟩ := Sp.cbCells HS.out (i := 1) rfl i HI6.out); (rw [HSI0.out] at hs0 hs1 hs2); (refine event_step (v := .agg #[.int .i64 si.f0, .int .i64 si.f1, .int .i64 si.f2]) (w1 := wB12) (by rfl) (by first | (go_simp; done) | (go_simp; rfl)) ?_); clear hs0 hs1 hs2
       refine hK.out _ _ (⟨((HOA.out ▸ Sp.cbCells HS.out (i := 2) rfl k HKX.out).1), ((HOA.out ▸ Sp.cbCells HS.out (i := 2) rfl k HKX.out).2.1), ((HOA.out ▸ Sp.cbCells HS.out (i := 2) rfl k HKX.out).2.2)⟩) (fun hHeld => ?_)
       clear hK K; (refine nm_ (some 28) ?_)
       refine o1_ 8 (some 29) (fun K hK => ?_)
       (refine gs_ Try.func96 #[.agg #[.int .i64 c.f0, .int .i64 c.f1, .int .i64 c.f2], .agg #[.int .i64 si.f0, .int .i64 si.f1, .int .i64 si.f2]] ?_); (refine (spec_l09Add.calls c.f0 c.f1 c.f2 si.f0 si.f1 si.f2 (addC c si).f0 (addC c si).f1 (addC c si).f2 _ rfl).mono ?_); (rintro e wA13 ⟨rfl, hb⟩); (refine ⟨_, rfl, ?_⟩); (replace HS := A0_ (Sp.far HS.out hb)); clear hb
       refine hK.out _ _ (⟨((HOA.out ▸ Sp.cbCells HS.out (i := 2) rfl k HKX.out).1), ((HOA.out ▸ Sp.cbCells HS.out (i := 2) rfl k HKX.out).2.1), ((HOA.out ▸ Sp.cbCells HS.out (i := 2) rfl k HKX.out).2.2)⟩) (fun hHeld => ?_)
       clear hK K; (refine nm_ (some 29) ?_)
       refine o1_ 10 none (fun K hK => ?_)
       (refine skip_ (w1 := wA13.setCells gx 0 (#[.int .i64 (addC c si).f0, .int .i64 (addC c si).f1, .int .i64 (addC c si).f2] : Array Value).toList) (by rfl) rfl (exec_store (v := .pointer (some ⟨gx, 0, none⟩)) (u := .agg #[.int .i64 (addC c si).f0, .int .i64 (addC c si).f1, .int .i64 (addC c si).f2]) rfl (by first | rfl | (go_simp; done) | (go_simp; rfl)) (by first | rfl | (go_simp; done) | (go_simp; rfl)) (Sp.blkStore HS.out (i := 0) rfl (.agg #[.int .i64 (addC c si).f0, .int .i64 (addC c si).f1, .int .i64 (addC c si).f2]) (#[.int .i64 (addC c si).f0, .int .i64 (addC c si).f1, .int .i64 (addC c si).f2]) rfl rfl (by kernel_rfl) (by first | (simp; done) | (simp [Value.oneCell']; done) | (simp; exact ⟨rfl, rfl, rfl⟩)))) ?_); (obtain ⟨wS14, hw_⟩ : ∃ w_, w_ = wA13.setCells gx 0 (#[.int .i64 (addC c si).f0, .int .i64 (addC c si).f1, .int .i64 (addC c si).f2] : Array Value).toList := ⟨_, rfl⟩); (rw [← hw_]); (have HS_ := A0_ (Sp.blkAll HS.out (i := 0) rfl (#[.int .i64 (addC c si).f0, .int .i64 (addC c si).f1, .int .i64 (addC c si).f2]) rfl)); (rw [← hw_] at HS_); clear HS; (have HS := HS_); clear HS_ hw_
       refine hK.out _ _ (⟨((HOA.out ▸ Sp.cbCells HS.out (i := 2) rfl k HKX.out).1), ((HOA.out ▸ Sp.cbCells HS.out (i := 2) rfl k HKX.out).2.1), ((HOA.out ▸ Sp.cbCells HS.out (i := 2) rfl k HKX.out).2.2)⟩) (fun hHeld => ?_)
       clear hK K; (refine dn_ ?_); (replace HS := A0_ (Sp.arr (pre := [Res.blk gx #[.int .i64 (addC c si).f0, .int .i64 (addC c si).f1, .int .i64 (addC c si).f2] 69, Res.row kC 69 w.heap.size (.slice (some ads) (stepsC).length cA11) (stepsC), Res.row kC 69 w.heap.size (.slice (some ado) (expI l0 o c i).length ca) (expI l0 o c i)]) (pre' := [Res.blk gx #[.int .i64 (addC c si).f0, .int .i64 (addC c si).f1, .int .i64 (addC c si).f2] 69, Res.row kC 69 w.heap.size (.slice (some ado) (expI l0 o c i).length ca) (expI l0 o c i), Res.row kC 69 w.heap.size (.slice (some ads) (stepsC).length cA11) (stepsC)]) (rest := ([] : List Res)) [0, 2, 1] HS.out rfl rfl)); (rw [show addC c si = x from hx.symm] at HS); (have HX6 := A0_ hx); clear hx; (have hx0 := (cl_ HS 0 0 rfl).trans rfl); (have hx1 := (cl_ HS 0 1 rfl).trans rfl); (have hx2 := (cl_ HS 0 2 rfl).trans rfl); (obtain ⟨Ka, ra, ha, hKa⟩ := HIX.out l0 x HZ.out.2); (have HKA := A0_ hKa)
       cases c1 : l0.contains x with
       | false =>
        (rw [c1] at ha); (have n0_ : decide (0 ≤ ra) = false := ha); (have n1_ : (0 ≤ ra) = False := eq_false (of_decide_eq_false ha)); (have HN := A0_ (show expI l0 o c (i + 1) = expI l0 o c i by rw [HES.out, ← HX6.out]; unfold addO; rw [c1, Bool.false_and, if_neg (by simp)])); clear c1 ha
        go_wp2_with (first
         | (go_at_call 102; refine (spec_l09Index.calls Ka (some ad0) c0 l0 x.f0 x.f1 x.f2 ra _ (Kd.C_below HR0.out HS.out.below) HC0.out HKA.out).mono ?_; rintro e wc_ ⟨rfl, hd_⟩; replace HS := A0_ (Sp.far HS.out hd_); clear hd_ hx0 hx1 hx2 HKA; have hx0 := (cl_ HS 0 0 rfl).trans rfl; have hx1 := (cl_ HS 0 1 rfl).trans rfl; have hx2 := (cl_ HS 0 2 rfl).trans rfl))
        (replace HS := A0_ (show Sp w [Res.row kC 69 w.heap.size (.slice (some ado) (expI l0 o c i).length ca) (expI l0 o c i)] _ from Sp.tail (Sp.out HS.out 2))); (go_roundg k2)
        case measure => omega
        case rel =>
         (rw [HWI.out]); (exact ⟨i + 1, some ado, ca, rfl, by rw [HN.out], ⟨by have := HI6.out; omega, by have := HY.out; omega⟩, ⟨by rw [HN.out]; exact HS.out⟩⟩)
       | true =>
        (rw [c1] at ha); (have n0_ : decide (0 ≤ ra) = true := ha); (have n1_ : (0 ≤ ra) = True := eq_true (of_decide_eq_true ha)); (obtain ⟨Kb, rb, hb, hKb⟩ := HIX.out (expI l0 o c i) x (by have := HFI.out.len; have := HZ.out.2; omega)); (have HKB := A0_ hKb); clear ha hKb
        cases c2 : (expI l0 o c i).contains x with
        | true =>
         (rw [c2] at hb); (have m0_ : decide (rb < 0) = false := decide_eq_false (by have := of_decide_eq_true hb; omega)); (have m1_ : (rb < 0) = False := eq_false (by have := of_decide_eq_true hb; omega)); (have HN := A0_ (show expI l0 o c (i + 1) = expI l0 o c i by rw [HES.out, ← HX6.out]; unfold addO; rw [c1, c2, Bool.not_true, Bool.and_false, if_neg (by simp)])); clear c1 c2 hb
         go_wp2_with (first
          | (go_at_call 102; refine (spec_l09Index.calls Ka (some ad0) c0 l0 x.f0 x.f1 x.f2 ra _ (Kd.C_below HR0.out HS.out.below) HC0.out HKA.out).mono ?_; rintro e wc_ ⟨rfl, hd_⟩; replace HS := A0_ (Sp.far HS.out hd_); clear hd_ hx0 hx1 hx2 HKA; have hx0 := (cl_ HS 0 0 rfl).trans rfl; have hx1 := (cl_ HS 0 1 rfl).trans rfl; have hx2 := (cl_ HS 0 2 rfl).trans rfl)
          | (go_at_call 102; refine (spec_l09Index.calls Kb (some ado) ca (expI l0 o c i) x.f0 x.f1 x.f2 rb _ (Sp.reads HS.out (i := 1) rfl).2.2 (Sp.reads HS.out (i := 1) rfl).2.1 HKB.out).mono ?_; rintro e wc_ ⟨rfl, hd_⟩; replace HS := A0_ (Sp.far HS.out hd_); clear hd_ hx0 hx1 hx2 HKB; have hx0 := (cl_ HS 0 0 rfl).trans rfl; have hx1 := (cl_ HS 0 1 rfl).trans rfl; have hx2 := (cl_ HS 0 2 rfl).trans rfl))
         (replace HS := A0_ (show Sp w [Res.row kC 69 w.heap.size (.slice (some ado) (expI l0 o c i).length ca) (expI l0 o c i)] _ from Sp.tail (Sp.out HS.out 2))); (go_roundg k2)
         case measure => omega
         case rel =>
          (rw [HWI.out]); (exact ⟨i + 1, some ado, ca, rfl, by rw [HN.out], ⟨by have := HI6.out; omega, by have := HY.out; omega⟩, ⟨by rw [HN.out]; exact HS.out⟩⟩)
        | false =>
         (rw [c2] at hb); (have m0_ : decide (rb < 0) = true := decide_eq_true (by have := of_decide_eq_false hb; omega)); (have m1_ : (rb < 0) = True := eq_true (by have := of_decide_eq_false hb; omega)); (have HN := A0_ (show expI l0 o c (i + 1) = expI l0 o c i ++ [x] by rw [HES.out, ← HX6.out]; unfold addO; rw [c1, c2, Bool.not_false, Bool.and_true, if_pos rfl])); clear c1 c2 hb; (replace HS := A0_ (show Sp w [Res.blk gx #[.int .i64 x.f0, .int .i64 x.f1, .int .i64 x.f2] 69, Res.row kC 69 w.heap.size (.slice (some ado) (expI l0 o c i).length ca) (expI l0 o c i)] _ from Sp.out HS.out 2))
         go_wp2_with (first
          | (go_at_call 102; refine (spec_l09Index.calls Ka (some ad0) c0 l0 x.f0 x.f1 x.f2 ra _ (Kd.C_below HR0.out HS.out.below) HC0.out HKA.out).mono ?_; rintro e wc_ ⟨rfl, hd_⟩; replace HS := A0_ (Sp.far HS.out hd_); clear hd_ hx0 hx1 hx2 HKA; have hx0 := (cl_ HS 0 0 rfl).trans rfl; have hx1 := (cl_ HS 0 1 rfl).trans rfl; have hx2 := (cl_ HS 0 2 rfl).trans rfl)
          | (go_at_call 102; refine (spec_l09Index.calls Kb (some ado) ca (expI l0 o c i) x.f0 x.f1 x.f2 rb _ (Sp.reads HS.out (i := 1) rfl).2.2 (Sp.reads HS.out (i := 1) rfl).2.1 HKB.out).mono ?_; rintro e wc_ ⟨rfl, hd_⟩; replace HS := A0_ (Sp.far HS.out hd_); clear hd_ hx0 hx1 hx2 HKB; have hx0 := (cl_ HS 0 0 rfl).trans rfl; have hx1 := (cl_ HS 0 1 rfl).trans rfl; have hx2 := (cl_ HS 0 2 rfl).trans rfl)
          | ((with_reducible refine gate_dst (N := 42) rfl ?_); refine Kd.R_lit kC _ 69 ?hg (N := 42) ?hd (xs := [x]) (inner := [.int .i64 x.f0, .int .i64 x.f1, .int .i64 x.f2]) (ok := fun _ => True) (okp := fun _ => True) ?hr ?hp (fun _ hk => hk) trivial (Below.refl _ _) (Nat.le_refl _) (by simp) ?_; (case hd => rfl); (case hg => rfl); (case hr => first | (go_simp; done) | (go_simp; rfl)); (case hp => exact (Reps.c3 (show Kd.M kC _ _ _ x [.int .i64 x.f0, .int .i64 x.f1, .int .i64 x.f2] from k69_mkM _ _ _ x) (Reps.none _ _))); intro vl_ wl_ ho_ hb_ hg_ hn_; clear hg_ hn_; replace HS := A0_ (Sp.made' HS.out hb_ ho_); clear ho_ hb_; obtain ⟨Ax, cx, ev_⟩ := Sp.slice HS.out (i := 0) rfl; subst ev_; clear hx0 hx1 hx2)
          | ((with_reducible refine gate_builtin (b := .append) (xs := #[.tmp 40, .tmp 42]) rfl ?_); at_builtin; obtain ⟨fp_, ho_, hf_, hc_⟩ := Sp.row HS.out (i := 2) rfl; refine Kd.R_append_rows kC (w0 := w) w.heap.size rfl (.tmp 40) (.tmp 42) 34 69 ((.agg #[(.int .i64 0), (.int .i64 0), (.int .i64 0)])) 24 rfl Try.underlying34 info69 rfl (by decide) (by omega) (.slice (some ado) (expI l0 o c i).length ca) (expI l0 o c i) ([x]) _ _ _ _ (fun _ => False) rfl rfl ho_ ((Sp.reads HS.out (i := 0) rfl).2.2) (fun _ _ h => h) (fun _ h => h.elim) (fun _ h => Or.inr h) HS.out.below HS.out.below.size ?aL ?_; (case aL => have := HFI.out.len; have := HZ.out.2; simp only [List.length_cons, List.length_nil]; omega); intro va_ wa_ ho hb hg hat; replace HS := A0_ (hc_ _ _ _ ho hg); clear ho hb hg hat hc_ hf_ ho_ fp_; obtain ⟨A2, c2_, ev_⟩ := Sp.slice HS.out (i := 2) rfl; subst ev_; rw [← HN.out] at HS))
         (replace HS := A0_ (show Sp w [Res.row kC 69 w.heap.size (.slice A2 (expI l0 o c (i + 1)).length c2_) (expI l0 o c (i + 1))] _ from Sp.tail (Sp.tail HS.out))); (go_roundg k2)
         case measure => omega
         case rel =>
          (rw [HWI.out]); (exact ⟨i + 1, A2, c2_, rfl, by rw [HN.out, List.length_append]; rfl, ⟨by have := HI6.out; omega, by have := HY.out; omega⟩, HS⟩)
     ·(refine event_step (v := .pointer (some ⟨wD.heap.size, 0, none⟩)) (w1 := wD.alloc (.cells #[.int .i64 0, .int .i64 0, .int .i64 0] 69)) (by rfl) (by first | (go_simp; done) | (go_simp; rfl)) ?_); (obtain ⟨gx, hg_⟩ : ∃ g_, g_ = (wD).heap.size := ⟨_, rfl⟩); (obtain ⟨wB11, hw_⟩ : ∃ w_, w_ = World.alloc wD (.cells #[.int .i64 0, .int .i64 0, .int .i64 0] 69) := ⟨_, rfl⟩); (rw [← hw_, ← hg_]); (have HS_ := A0_ (Sp.box HS.out #[.int .i64 0, .int .i64 0, .int .i64 0] 69)); (rw [← hw_, ← hg_] at HS_); clear HS; (have HS := HS_); clear HS_ hw_ hg_
      refine hK.out _ _ (⟨((HOA.out ▸ Sp.cbCells HS.out (i := 1) rfl k HKX.out).1), ((HOA.out ▸ Sp.cbCells HS.out (i := 1) rfl k HKX.out).2.1), ((HOA.out ▸ Sp.cbCells HS.out (i := 1) rfl k HKX.out).2.2)⟩) (fun hHeld => ?_)
      clear hK K; (refine nm_ (some 6) ?_)
      refine o1_ 4 (some 25) (fun K hK => ?_)
      (refine gs_ Try.func101 #[] ?_); (refine (spec_l09Steps.calls stepsC _ rfl).mono ?_); (rintro e wA12 ⟨vA12, rfl, ho, hb⟩); (refine ⟨_, rfl, ?_⟩); (replace HS := A0_ (Sp.made' HS.out hb ho)); clear hb ho; (obtain ⟨AA12, cA12, rfl⟩ := Sp.slice HS.out (i := 0) rfl); (obtain ⟨ads, es_, _⟩ := at_T69 (Sp.reads HS.out (i := 0) rfl).2.2 (0 : Int) (by omega) (by decide)); subst es_
      refine hK.out _ _ (⟨((HOA.out ▸ Sp.cbCells HS.out (i := 2) rfl k HKX.out).1), ((HOA.out ▸ Sp.cbCells HS.out (i := 2) rfl k HKX.out).2.1), ((HOA.out ▸ Sp.cbCells HS.out (i := 2) rfl k HKX.out).2.2)⟩) (fun hHeld => ?_)
      clear hK K; (refine nm_ (some 25) ?_); (refine on_ 6 (some 27) ?_)
      refine o1_ 7 (some 28) (fun K hK => ?_)
      (obtain ⟨hs0, hs1, hs2⟩ := Sp.cbCells HS.out (i := 0) rfl i HI6.out); (rw [HSI0.out] at hs0 hs1 hs2); (refine event_step (v := .agg #[.int .i64 si.f0, .int .i64 si.f1, .int .i64 si.f2]) (w1 := wA12) (by rfl) (by first | (go_simp; done) | (go_simp; rfl)) ?_); clear hs0 hs1 hs2
      refine hK.out _ _ (⟨((HOA.out ▸ Sp.cbCells HS.out (i := 2) rfl k HKX.out).1), ((HOA.out ▸ Sp.cbCells HS.out (i := 2) rfl k HKX.out).2.1), ((HOA.out ▸ Sp.cbCells HS.out (i := 2) rfl k HKX.out).2.2)⟩) (fun hHeld => ?_)
      clear hK K; (refine nm_ (some 28) ?_)
      refine o1_ 8 (some 29) (fun K hK => ?_)
      (refine gs_ Try.func96 #[.agg #[.int .i64 c.f0, .int .i64 c.f1, .int .i64 c.f2], .agg #[.int .i64 si.f0, .int .i64 si.f1, .int .i64 si.f2]] ?_); (refine (spec_l09Add.calls c.f0 c.f1 c.f2 si.f0 si.f1 si.f2 (addC c si).f0 (addC c si).f1 (addC c si).f2 _ rfl).mono ?_); (rintro e wA13 ⟨rfl, hb⟩); (refine ⟨_, rfl, ?_⟩); (replace HS := A0_ (Sp.far HS.out hb)); clear hb
      refine hK.out _ _ (⟨((HOA.out ▸ Sp.cbCells HS.out (i := 2) rfl k HKX.out).1), ((HOA.out ▸ Sp.cbCells HS.out (i := 2) rfl k HKX.out).2.1), ((HOA.out ▸ Sp.cbCells HS.out (i := 2) rfl k HKX.out).2.2)⟩) (fun hHeld => ?_)
      clear hK K; (refine nm_ (some 29) ?_)
      refine o1_ 10 none (fun K hK => ?_)
      (refine skip_ (w1 := wA13.setCells gx 0 (#[.int .i64 (addC c si).f0, .int .i64 (addC c si).f1, .int .i64 (addC c si).f2] : Array Value).toList) (by rfl) rfl (exec_store (v := .pointer (some ⟨gx, 0, none⟩)) (u := .agg #[.int .i64 (addC c si).f0, .int .i64 (addC c si).f1, .int .i64 (addC c si).f2]) rfl (by first | rfl | (go_simp; done) | (go_simp; rfl)) (by first | rfl | (go_simp; done) | (go_simp; rfl)) (Sp.blkStore HS.out (i := 1) rfl (.agg #[.int .i64 (addC c si).f0, .int .i64 (addC c si).f1, .int .i64 (addC c si).f2]) (#[.int .i64 (addC c si).f0, .int .i64 (addC c si).f1, .int .i64 (addC c si).f2]) rfl rfl (by kernel_rfl) (by first | (simp; done) | (simp [Value.oneCell']; done) | (simp; exact ⟨rfl, rfl, rfl⟩)))) ?_); (obtain ⟨wS14, hw_⟩ : ∃ w_, w_ = wA13.setCells gx 0 (#[.int .i64 (addC c si).f0, .int .i64 (addC c si).f1, .int .i64 (addC c si).f2] : Array Value).toList := ⟨_, rfl⟩); (rw [← hw_]); (have HS_ := A0_ (Sp.blkAll HS.out (i := 1) rfl (#[.int .i64 (addC c si).f0, .int .i64 (addC c si).f1, .int .i64 (addC c si).f2]) rfl)); (rw [← hw_] at HS_); clear HS; (have HS := HS_); clear HS_ hw_
      refine hK.out _ _ (⟨((HOA.out ▸ Sp.cbCells HS.out (i := 2) rfl k HKX.out).1), ((HOA.out ▸ Sp.cbCells HS.out (i := 2) rfl k HKX.out).2.1), ((HOA.out ▸ Sp.cbCells HS.out (i := 2) rfl k HKX.out).2.2)⟩) (fun hHeld => ?_)
      clear hK K; (refine dn_ ?_); (replace HS := A0_ (Sp.arr (pre := [Res.row kC 69 w.heap.size (.slice (some ads) (stepsC).length cA12) (stepsC), Res.blk gx #[.int .i64 (addC c si).f0, .int .i64 (addC c si).f1, .int .i64 (addC c si).f2] 69, Res.row kC 69 w.heap.size (.slice (some ado) (expI l0 o c i).length ca) (expI l0 o c i)]) (pre' := [Res.blk gx #[.int .i64 (addC c si).f0, .int .i64 (addC c si).f1, .int .i64 (addC c si).f2] 69, Res.row kC 69 w.heap.size (.slice (some ado) (expI l0 o c i).length ca) (expI l0 o c i), Res.row kC 69 w.heap.size (.slice (some ads) (stepsC).length cA12) (stepsC)]) (rest := ([] : List Res)) [1, 2, 0] HS.out rfl rfl)); (rw [show addC c si = x from hx.symm] at HS); (have HX6 := A0_ hx); clear hx; (have hx0 := (cl_ HS 0 0 rfl).trans rfl); (have hx1 := (cl_ HS 0 1 rfl).trans rfl); (have hx2 := (cl_ HS 0 2 rfl).trans rfl); (obtain ⟨Ka, ra, ha, hKa⟩ := HIX.out l0 x HZ.out.2); (have HKA := A0_ hKa)
      cases c1 : l0.contains x with
      | false =>
       (rw [c1] at ha); (have n0_ : decide (0 ≤ ra) = false := ha); (have n1_ : (0 ≤ ra) = False := eq_false (of_decide_eq_false ha)); (have HN := A0_ (show expI l0 o c (i + 1) = expI l0 o c i by rw [HES.out, ← HX6.out]; unfold addO; rw [c1, Bool.false_and, if_neg (by simp)])); clear c1 ha
       go_wp2_with (first
        | (go_at_call 102; refine (spec_l09Index.calls Ka (some ad0) c0 l0 x.f0 x.f1 x.f2 ra _ (Kd.C_below HR0.out HS.out.below) HC0.out HKA.out).mono ?_; rintro e wc_ ⟨rfl, hd_⟩; replace HS := A0_ (Sp.far HS.out hd_); clear hd_ hx0 hx1 hx2 HKA; have hx0 := (cl_ HS 0 0 rfl).trans rfl; have hx1 := (cl_ HS 0 1 rfl).trans rfl; have hx2 := (cl_ HS 0 2 rfl).trans rfl))
       (replace HS := A0_ (show Sp w [Res.row kC 69 w.heap.size (.slice (some ado) (expI l0 o c i).length ca) (expI l0 o c i)] _ from Sp.tail (Sp.out HS.out 2))); (go_roundg k2)
       case measure => omega
       case rel =>
        (rw [HWI.out]); (exact ⟨i + 1, some ado, ca, rfl, by rw [HN.out], ⟨by have := HI6.out; omega, by have := HY.out; omega⟩, ⟨by rw [HN.out]; exact HS.out⟩⟩)
      | true =>
       (rw [c1] at ha); (have n0_ : decide (0 ≤ ra) = true := ha); (have n1_ : (0 ≤ ra) = True := eq_true (of_decide_eq_true ha)); (obtain ⟨Kb, rb, hb, hKb⟩ := HIX.out (expI l0 o c i) x (by have := HFI.out.len; have := HZ.out.2; omega)); (have HKB := A0_ hKb); clear ha hKb
       cases c2 : (expI l0 o c i).contains x with
       | true =>
        (rw [c2] at hb); (have m0_ : decide (rb < 0) = false := decide_eq_false (by have := of_decide_eq_true hb; omega)); (have m1_ : (rb < 0) = False := eq_false (by have := of_decide_eq_true hb; omega)); (have HN := A0_ (show expI l0 o c (i + 1) = expI l0 o c i by rw [HES.out, ← HX6.out]; unfold addO; rw [c1, c2, Bool.not_true, Bool.and_false, if_neg (by simp)])); clear c1 c2 hb
        go_wp2_with (first
         | (go_at_call 102; refine (spec_l09Index.calls Ka (some ad0) c0 l0 x.f0 x.f1 x.f2 ra _ (Kd.C_below HR0.out HS.out.below) HC0.out HKA.out).mono ?_; rintro e wc_ ⟨rfl, hd_⟩; replace HS := A0_ (Sp.far HS.out hd_); clear hd_ hx0 hx1 hx2 HKA; have hx0 := (cl_ HS 0 0 rfl).trans rfl; have hx1 := (cl_ HS 0 1 rfl).trans rfl; have hx2 := (cl_ HS 0 2 rfl).trans rfl)
         | (go_at_call 102; refine (spec_l09Index.calls Kb (some ado) ca (expI l0 o c i) x.f0 x.f1 x.f2 rb _ (Sp.reads HS.out (i := 1) rfl).2.2 (Sp.reads HS.out (i := 1) rfl).2.1 HKB.out).mono ?_; rintro e wc_ ⟨rfl, hd_⟩; replace HS := A0_ (Sp.far HS.out hd_); clear hd_ hx0 hx1 hx2 HKB; have hx0 := (cl_ HS 0 0 rfl).trans rfl; have hx1 := (cl_ HS 0 1 rfl).trans rfl; have hx2 := (cl_ HS 0 2 rfl).trans rfl))
        (replace HS := A0_ (show Sp w [Res.row kC 69 w.heap.size (.slice (some ado) (expI l0 o c i).length ca) (expI l0 o c i)] _ from Sp.tail (Sp.out HS.out 2))); (go_roundg k2)
        case measure => omega
        case rel =>
         (rw [HWI.out]); (exact ⟨i + 1, some ado, ca, rfl, by rw [HN.out], ⟨by have := HI6.out; omega, by have := HY.out; omega⟩, ⟨by rw [HN.out]; exact HS.out⟩⟩)
       | false =>
        (rw [c2] at hb); (have m0_ : decide (rb < 0) = true := decide_eq_true (by have := of_decide_eq_false hb; omega)); (have m1_ : (rb < 0) = True := eq_true (by have := of_decide_eq_false hb; omega)); (have HN := A0_ (show expI l0 o c (i + 1) = expI l0 o c i ++ [x] by rw [HES.out, ← HX6.out]; unfold addO; rw [c1, c2, Bool.not_false, Bool.and_true, if_pos rfl])); clear c1 c2 hb; (replace HS := A0_ (show Sp w [Res.blk gx #[.int .i64 x.f0, .int .i64 x.f1, .int .i64 x.f2] 69, Res.row kC 69 w.heap.size (.slice (some ado) (expI l0 o c i).length ca) (expI l0 o c i)] _ from Sp.out HS.out 2))
        go_wp2_with (first
         | (go_at_call 102; refine (spec_l09Index.calls Ka (some ad0) c0 l0 x.f0 x.f1 x.f2 ra _ (Kd.C_below HR0.out HS.out.below) HC0.out HKA.out).mono ?_; rintro e wc_ ⟨rfl, hd_⟩; replace HS := A0_ (Sp.far HS.out hd_); clear hd_ hx0 hx1 hx2 HKA; have hx0 := (cl_ HS 0 0 rfl).trans rfl; have hx1 := (cl_ HS 0 1 rfl).trans rfl; have hx2 := (cl_ HS 0 2 rfl).trans rfl)
         | (go_at_call 102; refine (spec_l09Index.calls Kb (some ado) ca (expI l0 o c i) x.f0 x.f1 x.f2 rb _ (Sp.reads HS.out (i := 1) rfl).2.2 (Sp.reads HS.out (i := 1) rfl).2.1 HKB.out).mono ?_; rintro e wc_ ⟨rfl, hd_⟩; replace HS := A0_ (Sp.far HS.out hd_); clear hd_ hx0 hx1 hx2 HKB; have hx0 := (cl_ HS 0 0 rfl).trans rfl; have hx1 := (cl_ HS 0 1 rfl).trans rfl; have hx2 := (cl_ HS 0 2 rfl).trans rfl)
         | ((with_reducible refine gate_dst (N := 42) rfl ?_); refine Kd.R_lit kC _ 69 ?hg (N := 42) ?hd (xs := [x]) (inner := [.int .i64 x.f0, .int .i64 x.f1, .int .i64 x.f2]) (ok := fun _ => True) (okp := fun _ => True) ?hr ?hp (fun _ hk => hk) trivial (Below.refl _ _) (Nat.le_refl _) (by simp) ?_; (case hd => rfl); (case hg => rfl); (case hr => first | (go_simp; done) | (go_simp; rfl)); (case hp => exact (Reps.c3 (show Kd.M kC _ _ _ x [.int .i64 x.f0, .int .i64 x.f1, .int .i64 x.f2] from k69_mkM _ _ _ x) (Reps.none _ _))); intro vl_ wl_ ho_ hb_ hg_ hn_; clear hg_ hn_; replace HS := A0_ (Sp.made' HS.out hb_ ho_); clear ho_ hb_; obtain ⟨Ax, cx, ev_⟩ := Sp.slice HS.out (i := 0) rfl; subst ev_; clear hx0 hx1 hx2)
         | ((with_reducible refine gate_builtin (b := .append) (xs := #[.tmp 40, .tmp 42]) rfl ?_); at_builtin; obtain ⟨fp_, ho_, hf_, hc_⟩ := Sp.row HS.out (i := 2) rfl; refine Kd.R_append_rows kC (w0 := w) w.heap.size rfl (.tmp 40) (.tmp 42) 34 69 ((.agg #[(.int .i64 0), (.int .i64 0), (.int .i64 0)])) 24 rfl Try.underlying34 info69 rfl (by decide) (by omega) (.slice (some ado) (expI l0 o c i).length ca) (expI l0 o c i) ([x]) _ _ _ _ (fun _ => False) rfl rfl ho_ ((Sp.reads HS.out (i := 0) rfl).2.2) (fun _ _ h => h) (fun _ h => h.elim) (fun _ h => Or.inr h) HS.out.below HS.out.below.size ?aL ?_; (case aL => have := HFI.out.len; have := HZ.out.2; simp only [List.length_cons, List.length_nil]; omega); intro va_ wa_ ho hb hg hat; replace HS := A0_ (hc_ _ _ _ ho hg); clear ho hb hg hat hc_ hf_ ho_ fp_; obtain ⟨A2, c2_, ev_⟩ := Sp.slice HS.out (i := 2) rfl; subst ev_; rw [← HN.out] at HS))
        (replace HS := A0_ (show Sp w [Res.row kC 69 w.heap.size (.slice A2 (expI l0 o c (i + 1)).length c2_) (expI l0 o c (i + 1))] _ from Sp.tail (Sp.tail HS.out))); (go_roundg k2)
        case measure => omega
        case rel =>
         (rw [HWI.out]); (exact ⟨i + 1, A2, c2_, rfl, by rw [HN.out, List.length_append]; rfl, ⟨by have := HI6.out; omega, by have := HY.out; omega⟩, HS⟩)
    ·(have ci0 : decide (i < 6) = false := decide_eq_false ci); (have ci1 : (i < 6) = False := eq_false ci); (have ci2 : decide ((i : Int) < 6) = false := decide_eq_false (by omega)); (have ci3 : ((i : Int) < 6) = False := eq_false (by omega)); (have hi : i = 6 := by have := HY.out; omega); subst hi; clear ci; go_wp2; (go_roundg k1)
     case measure => omega
     case rel =>
      (rw [HW.out]); (have h1 := (HPR.out 6 (Nat.le_refl _)).1); (exact ⟨k + 1, expI l0 o c 6, A, ca, rfl, rfl, ⟨by omega, HFT.out 6 (Nat.le_refl _), by have := HX.out; omega⟩, ⟨by rw [HFIN.out, HNX.out]⟩, HS⟩)
  ·(have ck0 : decide (k < o.length) = false := decide_eq_false ck)
   have HNX := A0_ (show conP l0 = decide (o.length = l0.length) by
    (rw [HFIN.out]); (have h1 := HX.out.2.1.len); (have h2 := HX.out.1); (rw [show l0.length + 1 - k = (l0.length - k) + 1 from by omega]); (unfold bfsO); (rw [if_neg ck]))
   clear ck; (by_cases ce : o.length = l0.length)
   ·(have ce0 : (o.length == l0.length) = true := by rw [beq_iff_eq]; exact ce); (have ce1 : ((o.length : Int) == (l0.length : Int)) = true := by rw [beq_iff_eq]; omega); (have ce2 := eq_true ce); (rw [decide_eq_true ce] at HNX); clear ce; go_wp2; go_ret; (exact ⟨by rw [HNX.out]; rfl, HS.out.below⟩)
   ·(have ce0 : (o.length == l0.length) = false := by rw [beq_eq_false_iff_ne]; exact ce); (have ce1 : ((o.length : Int) == (l0.length : Int)) = false := by rw [beq_eq_false_iff_ne]; omega); (have ce2 := eq_false ce); (rw [decide_eq_false ce] at HNX); clear ce; go_wp2; go_ret; (exact ⟨by rw [HNX.out]; rfl, HS.out.below⟩)
def spec_IsAssembly.f (k : Nat) (l : List (List Cb)) : Option Bool := if l.length ≤ 1048576 ∧ ∀ p ∈ l, p.length ≤ 1048576 then some (asmS l) else none
theorem meetS_at (a b : List Cb) (ha : a.length ≤ 1048576) (hb : b.length ≤ 1048576) : ∃ K, spec_l27Meet.f K a b = some (meetS a b) := (smeet_ev a b ha hb).rounds
def sasF.T17 : Bool × List (List Nat × List Nat) := (true, [([], []), ([0], [0]), ([], []), ([1, 2], [1, 2]), ([3], [3]), ([], []), ([5], [5]), ([], []), ([6, 7], [6, 7]), ([8], [8]), ([4, 9], [4, 9])])
def sasF.B17 : List Nat := [0, 1, 0, 7, 15, 0, 32, 0, 224, 480, 1023]
theorem sasF.tab17 : rtab .any (opsOf Try.f54 17) = sasF.T17 := by kernel_rfl
theorem sasF.bits17 : waitsOk sasF.T17.2 sasF.B17 = true := by kernel_rfl
set_option maxHeartbeats 4000000 in
set_option maxRecDepth 100000 in
theorem spec_IsAssembly.calls (k : Nat) (A0 : Option Addr) (c0 : Nat) (l : List (List Cb)) (r : Bool) (w : World) (hr0 : Kd.C (Kd.slice 69 k69) w A0 l.length l) (hc0 : l.length ≤ c0) (h : spec_IsAssembly.f k l = some r) :
    Calls Try.prog 54 #[.agg #[.slice A0 l.length c0]] w fun e w' => e = .returned (.bool r) ∧ Below w.heap.size w w' := by
 (have hu32 := Try.underlying32); (have hu69 := Try.underlying69); (unfold spec_IsAssembly.f at h); (split at h)
 case isFalse => cases h
 (rename_i hz); (obtain rfl := Option.some.inj h); (have HR0 := A0_ hr0); (have HZ := A0_ hz); (have HS := A0_ (Sp.start w)); clear hr0 hz h
 cases hn : inR (l.length : Int) 2 4 with
 | false =>
  (have HF := A0_ (asmS_few l hn)); (have HIN := A0_ ((in_eq (l.length : Int) 2 4).trans (congrArg some hn))); clear hn; (go_enter Try.func54, Try.ntmps54)
  go_wp2_with (first
   | ((with_reducible refine gate_dst (N := 1) rfl ?_); refine be_ (N := 1) (cs := #[.slice A0 l.length c0]) (t := 32) ?_; intro ga hgb_ wb_ hcb_ hbb_; replace HS := A0_ (Sp.boxed HS.out hgb_ hcb_ hbb_); clear hgb_ hcb_ hbb_; have ha0 := (cl_ HS 0 0 rfl).trans rfl)
   | (go_at_call 45; refine (spec_l01In.calls (l.length : Int) 2 4 false _ HIN.out).mono ?_; rintro e wc_ ⟨rfl, hb_⟩; replace HS := A0_ (Sp.far HS.out hb_.below); clear hb_ ha0))
  go_ret; (exact ⟨by rw [HF.out]; rfl, HS.out.below⟩)
 | true =>
 (have HIN := A0_ ((in_eq (l.length : Int) 2 4).trans (congrArg some hn))); (have HL := A0_ (show 2 ≤ l.length ∧ l.length ≤ 4 by unfold inR at hn; rw [Bool.and_eq_true, decide_eq_true_eq, decide_eq_true_eq] at hn; omega)); (have HEND := A0_ (asmS_end l hn)); clear hn; (go_enter Try.func54, Try.ntmps54)
 go_wp2_with (first
  | ((with_reducible refine gate_dst (N := 1) rfl ?_); refine be_ (N := 1) (cs := #[.slice A0 l.length c0]) (t := 32) ?_; intro ga hgb_ wb_ hcb_ hbb_; replace HS := A0_ (Sp.boxed HS.out hgb_ hcb_ hbb_); clear hgb_ hcb_ hbb_; have ha0 := (cl_ HS 0 0 rfl).trans rfl)
  | (go_at_call 45; refine (spec_l01In.calls (l.length : Int) 2 4 true _ HIN.out).mono ?_; rintro e wc_ ⟨rfl, hb_⟩; replace HS := A0_ (Sp.far HS.out hb_.below); clear hb_ ha0))
 go_loopg [3] (l.length + 1) (fun kq v3 w' => ∃ (i : Nat), v3 = .int .i64 (i : Int) ∧ Aside0 (i ≤ l.length ∧ kq + i = l.length + 1 ∧ (List.range i).all (rowOk l) = true) ∧ Aside0 (Sp w [Res.blk ga #[.slice A0 l.length c0] 32] w'))
 case atStart => exact ⟨0, rfl, ⟨by omega, by omega, rfl⟩, HS⟩
 case round =>
  clear HS; (obtain ⟨i, rfl, HX, HS⟩ := hrel); (obtain ⟨k1, rfl⟩ : ∃ k1, gk = k1 + 1 := ⟨gk - 1, by have := HX.out; omega⟩); (have ha0 := (cl_ HS 0 0 rfl).trans rfl); (by_cases ci : i < l.length)
  ·(have ci0 : decide (i < l.length) = true := decide_eq_true ci); (have q0 : (0 ≤ (i : Int)) = True := eq_true (by omega)); (have q1 : ((i : Int) < (l.length : Int)) = True := eq_true (by omega)); (have q2 : (i < l.length) = True := eq_true ci); (have HW := A0_ (wrap_succ i (by have := HL.out; omega))); (have hno := asmS_no l i ci); (have hnx := range_next (rowOk l) i HX.out.2.2); (obtain ⟨adp, Ai, ci_, e, hx0, hx1, hx2⟩ := at_L4 HR0.out (i : Int) (by omega) (by omega)); subst e; (have hpl := HZ.out.2 _ (pAt_mem l i ci)); (rw [show rd_L4 l (i : Int) = pAt l i from rfl] at hx0 hx1 hx2); (rw [Int.toNat_natCast] at hx0); (unfold rowOk at hno hnx); (have HCI := A0_ ci); (obtain ⟨p, hp⟩ : ∃ p, p = pAt l i := ⟨_, rfl⟩); (rw [← hp] at hno hnx hx0 hx1 hx2 hpl); (have HP0 := A0_ hx0); (have HP1 := A0_ hx1); (have HP2 := A0_ hx2); (have HPL := A0_ hpl); (have hxi := pw_cell_below HS.out.below HP0.out); clear ci hp hx0 hx1 hx2
   cases b1 : solP p with
   | false =>
    (have HSO := A0_ (show spec_l09Solid.f 0 p = some false by unfold spec_l09Solid.f; rw [if_pos hpl, b1])); (have HF := A0_ (hno (by rw [b1, Bool.false_and]))); clear hno hnx b1 hpl
    go_wp2_with (first
     | (go_at_call 76; refine (spec_l09Solid.calls 0 Ai ci_ p false _ (Kd.C_below HP2.out HS.out.below) HP1.out HSO.out).mono ?_; rintro e wc_ ⟨rfl, hb_⟩; replace HS := A0_ (Sp.far HS.out hb_); clear hb_ ha0 hxi))
    go_ret; (exact ⟨by rw [HF.out]; rfl, HS.out.below⟩)
   | true =>
   (have HSO := A0_ (show spec_l09Solid.f 0 p = some true by unfold spec_l09Solid.f; rw [if_pos hpl, b1]))
   have h1 : 1 ≤ p.length := by
    (unfold solP at b1); (rw [Bool.and_eq_true, Bool.and_eq_true, decide_eq_true_eq] at b1); (exact b1.2.1)
   (rw [b1, Bool.true_and] at hno hnx); clear b1
   cases b2 : conP p with
   | false =>
    (have HCO := A0_ (show spec_l09Connected.f 0 p = some false by unfold spec_l09Connected.f; rw [if_pos ⟨h1, hpl⟩, b2])); (have HF := A0_ (hno (by rw [b2, Bool.false_and]))); clear hno hnx b2 hpl h1
    go_wp2_with (first
     | (go_at_call 76; refine (spec_l09Solid.calls 0 Ai ci_ p true _ (Kd.C_below HP2.out HS.out.below) HP1.out HSO.out).mono ?_; rintro e wc_ ⟨rfl, hb_⟩; replace HS := A0_ (Sp.far HS.out hb_); clear hb_ ha0 hxi; have ha0 := (cl_ HS 0 0 rfl).trans rfl; have hxi := pw_cell_below HS.out.below HP0.out)
     | (go_at_call 77; refine (spec_l09Connected.calls 0 Ai ci_ p false _ (Kd.C_below HP2.out HS.out.below) HP1.out HCO.out).mono ?_; rintro e wc_ ⟨rfl, hb_⟩; replace HS := A0_ (Sp.far HS.out hb_); clear hb_ ha0 hxi))
    go_ret; (exact ⟨by rw [HF.out]; rfl, HS.out.below⟩)
   | true =>
   (have HCO := A0_ (show spec_l09Connected.f 0 p = some true by unfold spec_l09Connected.f; rw [if_pos ⟨h1, hpl⟩, b2])); (rw [b2, Bool.true_and] at hno hnx); (have HNO := A0_ hno); (have HNX := A0_ hnx); clear hno hnx b2 hpl h1
   go_wp2_with (first
    | (go_at_call 76; refine (spec_l09Solid.calls 0 Ai ci_ p true _ (Kd.C_below HP2.out HS.out.below) HP1.out HSO.out).mono ?_; rintro e wc_ ⟨rfl, hb_⟩; replace HS := A0_ (Sp.far HS.out hb_); clear hb_ ha0 hxi; have ha0 := (cl_ HS 0 0 rfl).trans rfl; have hxi := pw_cell_below HS.out.below HP0.out)
    | (go_at_call 77; refine (spec_l09Connected.calls 0 Ai ci_ p true _ (Kd.C_below HP2.out HS.out.below) HP1.out HCO.out).mono ?_; rintro e wc_ ⟨rfl, hb_⟩; replace HS := A0_ (Sp.far HS.out hb_); clear hb_ ha0 hxi))
   go_loopg [4] (p.length + 1) (fun kq v4 w' => ∃ (j : Nat), v4 = .int .i64 (j : Int) ∧ Aside0 (j ≤ p.length ∧ kq + j = p.length + 1 ∧ (List.range j).all (fun c => inCb (cAt p c) 0 7) = true) ∧ Aside0 (Sp w [Res.blk ga #[.slice (some adp) l.length c0] 32] w'))
   case atStart => exact ⟨0, rfl, ⟨by omega, by omega, rfl⟩, HS⟩
   case round =>
    clear HS; (obtain ⟨j, rfl, HY, HS⟩ := hrel); (obtain ⟨k2, rfl⟩ : ∃ k2, gk = k2 + 1 := ⟨gk - 1, by have := HY.out; omega⟩); (have ha0 := (cl_ HS 0 0 rfl).trans rfl); (have hxi := pw_cell_below HS.out.below HP0.out); (by_cases cj : j < p.length)
    ·(have cj0 : decide (j < p.length) = true := decide_eq_true cj); (have p0 : (0 ≤ (j : Int)) = True := eq_true (by omega)); (have p1 : ((j : Int) < (p.length : Int)) = True := eq_true (by omega)); (have p2 : (j < p.length) = True := eq_true cj); (have HWJ := A0_ (wrap_succ j (by have := HPL.out; omega)))
     have HNJ := A0_ (range_next (fun c => inCb (cAt p c) 0 7) j HY.out.2.2)
     have HBJ := A0_ (fun h => HNO.out (by rw [range_no (fun c => inCb (cAt p c) 0 7) p.length j cj h, Bool.false_and]))
     (obtain ⟨adc, e, hx0, hx1, hx2⟩ := at_T69 (Kd.C_below HP2.out HS.out.below) (j : Int) (by omega) (by omega)); subst e; (rw [show rd_T69 p (j : Int) = cAt p j from rfl] at hx0 hx1 hx2); (rw [Int.toNat_natCast] at hx0 hx1 hx2); (have HCJ := A0_ cj); (obtain ⟨c, hc⟩ : ∃ c, c = cAt p j := ⟨_, rfl⟩); (rw [← hc] at hx0 hx1 hx2 HNJ HBJ); clear cj hc
     have hin : ∀ x : Int, spec_l01In.f x 0 7 = some (inR x 0 7) := fun x => in_eq x 0 7
     cases b0 : inR c.f0 0 7 with
     | false =>
      (have HB0 := A0_ ((hin c.f0).trans (congrArg some b0))); (have HF := A0_ (HBJ.out (by unfold inCb; rw [b0]; rfl))); clear b0 hin HNJ HBJ
      go_wp2_with (first
       | (go_at_call 45; obtain ⟨gc, hg_⟩ : ∃ g_, g_ = (wr).heap.size := ⟨_, rfl⟩; obtain ⟨wx, hw_⟩ : ∃ w_, w_ = (wr).alloc (.cells #[.int .i64 c.f0, .int .i64 c.f1, .int .i64 c.f2] 69) := ⟨_, rfl⟩; (try rw [← hw_]); (try rw [← hg_]); have HS_ := A0_ (Sp.box HS.out #[.int .i64 c.f0, .int .i64 c.f1, .int .i64 c.f2] 69); rw [← hw_, ← hg_] at HS_; clear HS; have HS := HS_; clear HS_ hw_ hg_; refine (spec_l01In.calls c.f0 0 7 false _ HB0.out).mono ?_; rintro e wc_ ⟨rfl, hb_⟩; replace HS := A0_ (Sp.far HS.out hb_.below); clear hb_ ha0 hxi hx0 hx1 hx2))
      go_ret; (exact ⟨by rw [HF.out]; rfl, HS.out.below⟩)
     | true =>
     (have HB0 := A0_ ((hin c.f0).trans (congrArg some b0)))
     cases b1 : inR c.f1 0 7 with
     | false =>
      (have HB1 := A0_ ((hin c.f1).trans (congrArg some b1))); (have HF := A0_ (HBJ.out (by unfold inCb; rw [b0, b1]; rfl))); clear b0 b1 hin HNJ HBJ
      go_wp2_with (first
       | (go_at_call 45; obtain ⟨gc, hg_⟩ : ∃ g_, g_ = (wr).heap.size := ⟨_, rfl⟩; obtain ⟨wx, hw_⟩ : ∃ w_, w_ = (wr).alloc (.cells #[.int .i64 c.f0, .int .i64 c.f1, .int .i64 c.f2] 69) := ⟨_, rfl⟩; (try rw [← hw_]); (try rw [← hg_]); have HS_ := A0_ (Sp.box HS.out #[.int .i64 c.f0, .int .i64 c.f1, .int .i64 c.f2] 69); rw [← hw_, ← hg_] at HS_; clear HS; have HS := HS_; clear HS_ hw_ hg_; refine (spec_l01In.calls c.f0 0 7 true _ HB0.out).mono ?_; rintro e wc_ ⟨rfl, hb_⟩; replace HS := A0_ (Sp.far HS.out hb_.below); clear hb_ ha0 hxi hx0 hx1 hx2 HB0; have hc1 := (cl_ HS 0 1 rfl).trans rfl)
       | (go_at_call 45; refine (spec_l01In.calls c.f1 0 7 false _ HB1.out).mono ?_; rintro e wc_ ⟨rfl, hb_⟩; replace HS := A0_ (Sp.far HS.out hb_.below); clear hb_ hc1))
      go_ret; (exact ⟨by rw [HF.out]; rfl, HS.out.below⟩)
     | true =>
     (have HB1 := A0_ ((hin c.f1).trans (congrArg some b1)))
     cases b2 : inR c.f2 0 7 with
     | false =>
      (have HB2 := A0_ ((hin c.f2).trans (congrArg some b2))); (have HF := A0_ (HBJ.out (by unfold inCb; rw [b0, b1, b2]; rfl))); clear b0 b1 b2 hin HNJ HBJ
      go_wp2_with (first
       | (go_at_call 45; obtain ⟨gc, hg_⟩ : ∃ g_, g_ = (wr).heap.size := ⟨_, rfl⟩; obtain ⟨wx, hw_⟩ : ∃ w_, w_ = (wr).alloc (.cells #[.int .i64 c.f0, .int .i64 c.f1, .int .i64 c.f2] 69) := ⟨_, rfl⟩; (try rw [← hw_]); (try rw [← hg_]); have HS_ := A0_ (Sp.box HS.out #[.int .i64 c.f0, .int .i64 c.f1, .int .i64 c.f2] 69); rw [← hw_, ← hg_] at HS_; clear HS; have HS := HS_; clear HS_ hw_ hg_; refine (spec_l01In.calls c.f0 0 7 true _ HB0.out).mono ?_; rintro e wc_ ⟨rfl, hb_⟩; replace HS := A0_ (Sp.far HS.out hb_.below); clear hb_ ha0 hxi hx0 hx1 hx2 HB0; have hc1 := (cl_ HS 0 1 rfl).trans rfl; have hc2 := (cl_ HS 0 2 rfl).trans rfl)
       | (go_at_call 45; refine (spec_l01In.calls c.f1 0 7 true _ HB1.out).mono ?_; rintro e wc_ ⟨rfl, hb_⟩; replace HS := A0_ (Sp.far HS.out hb_.below); clear hb_ hc1 hc2 HB1; have hc2 := (cl_ HS 0 2 rfl).trans rfl)
       | (go_at_call 45; refine (spec_l01In.calls c.f2 0 7 false _ HB2.out).mono ?_; rintro e wc_ ⟨rfl, hb_⟩; replace HS := A0_ (Sp.far HS.out hb_.below); clear hb_ hc2))
      go_ret; (exact ⟨by rw [HF.out]; rfl, HS.out.below⟩)
     | true =>
     (have HB2 := A0_ ((hin c.f2).trans (congrArg some b2))); (have HN := A0_ (HNJ.out (by unfold inCb; rw [b0, b1, b2]; rfl))); clear b0 b1 b2 hin HNJ HBJ
     go_wp2_with (first
      | (go_at_call 45; obtain ⟨gc, hg_⟩ : ∃ g_, g_ = (wr).heap.size := ⟨_, rfl⟩; obtain ⟨wx, hw_⟩ : ∃ w_, w_ = (wr).alloc (.cells #[.int .i64 c.f0, .int .i64 c.f1, .int .i64 c.f2] 69) := ⟨_, rfl⟩; (try rw [← hw_]); (try rw [← hg_]); have HS_ := A0_ (Sp.box HS.out #[.int .i64 c.f0, .int .i64 c.f1, .int .i64 c.f2] 69); rw [← hw_, ← hg_] at HS_; clear HS; have HS := HS_; clear HS_ hw_ hg_; refine (spec_l01In.calls c.f0 0 7 true _ HB0.out).mono ?_; rintro e wc_ ⟨rfl, hb_⟩; replace HS := A0_ (Sp.far HS.out hb_.below); clear hb_ ha0 hxi hx0 hx1 hx2 HB0; have hc1 := (cl_ HS 0 1 rfl).trans rfl; have hc2 := (cl_ HS 0 2 rfl).trans rfl)
      | (go_at_call 45; refine (spec_l01In.calls c.f1 0 7 true _ HB1.out).mono ?_; rintro e wc_ ⟨rfl, hb_⟩; replace HS := A0_ (Sp.far HS.out hb_.below); clear hb_ hc1 hc2 HB1; have hc2 := (cl_ HS 0 2 rfl).trans rfl)
      | (go_at_call 45; refine (spec_l01In.calls c.f2 0 7 true _ HB2.out).mono ?_; rintro e wc_ ⟨rfl, hb_⟩; replace HS := A0_ (Sp.far HS.out hb_.below); clear hb_ hc2 HB2))
     (replace HS := A0_ (Sp.tail HS.out)); (go_roundg k2)
     case measure => omega
     case rel =>
      (rw [HWJ.out]); (exact ⟨j + 1, rfl, ⟨by have := HCJ.out; omega, by have := HY.out; omega, HN.out⟩, HS⟩)
    ·(have cj0 : decide (j < p.length) = false := decide_eq_false cj); (have cj1 : (j < p.length) = False := eq_false cj); (have hj : j = p.length := by have := HY.out; omega); (have HALL := A0_ (hj ▸ HY.out.2.2)); (have hno := HNO.out); (have hnx := HNX.out); (rw [HALL.out, Bool.true_and] at hno hnx); (have HNO2 := A0_ hno); (have HNX2 := A0_ hnx); clear cj hj hno hnx HNO HNX HALL; go_wp2; clear hxi ha0
     go_loopg [6] (i + 1) (fun kq v6 w' => ∃ (j : Nat), v6 = .int .i64 (j : Int) ∧ Aside0 (j ≤ i ∧ kq + j = i + 1 ∧ (List.range j).all (fun q => !meetS p (pAt l q)) = true) ∧ Aside0 (Sp w [Res.blk ga #[.slice (some adp) l.length c0] 32] w'))
     case atStart => exact ⟨0, rfl, ⟨by omega, by omega, rfl⟩, HS⟩
     case round =>
      clear HS; (obtain ⟨j, rfl, HY2, HS⟩ := hrel); (obtain ⟨k2, rfl⟩ : ∃ k2, gk = k2 + 1 := ⟨gk - 1, by have := HY2.out; omega⟩); (by_cases cj : j < i)
      ·(have cj0 : decide (j < i) = true := decide_eq_true cj); (have p0 : (0 ≤ (j : Int)) = True := eq_true (by omega)); (have p1 : ((j : Int) < (l.length : Int)) = True := eq_true (by have := HCI.out; omega)); (have p2 : (j < l.length) = True := eq_true (by have := HCI.out; omega)); (have HWJ := A0_ (wrap_succ j (by have := HL.out; have := HCI.out; omega)))
       have HNJ := A0_ (range_next (fun q => !meetS p (pAt l q)) j HY2.out.2.2)
       have HBJ := A0_ (fun h => HNO2.out (range_no (fun q => !meetS p (pAt l q)) i j cj h))
       (obtain ⟨ad2, Aj, cj_, e, hx0, hx1, hx2⟩ := at_L4 HR0.out (j : Int) (by omega) (by have := HCI.out; omega)); (injection e with e); subst e; (have hpl := HZ.out.2 _ (pAt_mem l j (by have := HCI.out; omega))); (rw [show rd_L4 l (j : Int) = pAt l j from rfl] at hx0 hx1 hx2); (rw [Int.toNat_natCast] at hx0); (have HCJ := A0_ cj); (try dsimp only at HNJ HBJ); (obtain ⟨pj, hpj⟩ : ∃ pj, pj = pAt l j := ⟨_, rfl⟩); (rw [← hpj] at hx0 hx1 hx2 HNJ HBJ hpl); (have HJ0 := A0_ hx0); (have HJ1 := A0_ hx1); (have HJ2 := A0_ hx2); (obtain ⟨KM, hKM⟩ := meetS_at p pj HPL.out hpl); (have HME := A0_ hKM); clear cj hpj hx0 hx1 hx2 hKM hpl; (replace HS := A0_ (show Sp w ([Res.blk ga #[.slice (some adp) l.length c0] 32] ++ ([] : List Res)) wr.drew from Sp.drew HS.out)); go_wp2
       refine start_ (n := 11) (S := fun w' => w'.cell? ⟨ga, 0, none⟩ = some (.slice (some adp) l.length c0) ∧ w'.cell? (adp.add i) = some (.slice Ai p.length ci_) ∧ w'.cell? (adp.add j) = some (.slice Aj pj.length cj_)) (ds := []) #[ff,ff,ff,ff,ff,ff,ff,ff,ff,ff,ff] (by kernel_rfl) rfl rfl (⟨(cl_ HS 0 0 rfl).trans rfl, pw_cell_below HS.out.below HP0.out, pw_cell_below HS.out.below HJ0.out⟩) (fun hHeld => ?_)
       refine with_tabW sasF.tab17 sasF.bits17 (fun HT_ HW_ => ?_)
       (generalize wr.drew = wD at HS hHeld ⊢); (refine on_ 0 (some 74) ?_); (refine tk_ 1 (some 75) ?_); (refine on_ 2 (some 76) ?_); (refine on_ 3 (some 77) ?_); (refine tk_ 4 (some 78) ?_); (refine on_ 5 (some 79) ?_); (refine tk_ 6 (some 80) ?_); (refine on_ 7 (some 81) ?_); (refine on_ 8 (some 82) ?_); (refine tk_ 9 (some 83) ?_)
       refine o1_ 10 (some 84) (fun K hK => ?_)
       (refine gs_ Try.func78 #[.slice Ai p.length ci_, .slice Aj pj.length cj_] ?_); (refine (spec_l27Meet.calls KM Ai ci_ p Aj cj_ pj (meetS p pj) _ (Kd.C_below HP2.out HS.out.below) HP1.out (Kd.C_below HJ2.out HS.out.below) HJ1.out HME.out).mono ?_); (rintro e wA11 ⟨rfl, hb⟩); (refine ⟨_, rfl, ?_⟩); (replace HS := A0_ (Sp.far HS.out hb)); clear hb
       refine hK.out _ _ (⟨(cl_ HS 0 0 rfl).trans rfl, pw_cell_below HS.out.below HP0.out, pw_cell_below HS.out.below HJ0.out⟩) (fun hHeld => ?_)
       clear hK K; (refine nm_ (some 84) ?_); (refine dn_ ?_)
       cases hm : meetS p pj with
       | true =>
        (have HF := A0_ (HBJ.out (by rw [hm]; rfl))); clear HNJ HBJ; (try rw [hm]); go_wp2; go_ret; (exact ⟨by rw [HF.out]; rfl, HS.out.below⟩)
       | false =>
        (have HN := A0_ (HNJ.out (by rw [hm]; rfl))); clear HNJ HBJ; (try rw [hm]); go_wp2; (go_roundg k2)
        case measure => omega
        case rel =>
         (rw [HWJ.out]); (exact ⟨j + 1, rfl, ⟨by have := HCJ.out; omega, by have := HY2.out; omega, HN.out⟩, HS⟩)
      ·(have cj0 : decide (j < i) = false := decide_eq_false cj); (have cj1 : (j < i) = False := eq_false cj); (have hj : j = i := by have := HY2.out; omega); (have HN := A0_ (HNX2.out (hj ▸ HY2.out.2.2))); clear cj hj; go_wp2; (go_roundg k1)
       case measure => omega
       case rel =>
        (rw [HW.out]); (exact ⟨i + 1, rfl, ⟨by have := HCI.out; omega, by have := HX.out; omega, HN.out⟩, HS⟩)
  ·(have ci0 : decide (i < l.length) = false := decide_eq_false ci); (have ci1 : (i < l.length) = False := eq_false ci); (have hi : i = l.length := by have := HX.out; omega); (have HF := A0_ (HEND.out (hi ▸ HX.out.2.2))); clear ci hi; go_wp2; go_ret; (exact ⟨by rw [HF.out]; rfl, HS.out.below⟩)
theorem add_zero_in (c : Cb) (h : inCb c 0 7 = true) : addC c ⟨0, 0, 0⟩ = c := by
 rw [inCb_iff] at h
 unfold addC
 rw [wrap_id (by simp; omega) (by simp; omega), wrap_id (by simp; omega) (by simp; omega), wrap_id (by simp; omega) (by simp; omega)]
 simp
theorem map_zero_in (p : List Cb) (h : ∀ c ∈ p, inCb c 0 7 = true) : (p.map fun c => addC c ⟨0, 0, 0⟩) = p := by
 have : p.map (fun c => addC c ⟨0, 0, 0⟩) = p.map id := List.map_congr_left (fun c hc => add_zero_in c (h c hc))
 rw [this, List.map_id]
theorem all_at (p : List Cb) (q : Cb → Bool) : (List.range p.length).all (fun c => q (cAt p c)) = p.all q := by
 rw [Bool.eq_iff_iff, List.all_eq_true, List.all_eq_true]
 constructor
 ·intro h c hc
  obtain ⟨i, hi, rfl⟩ := List.mem_iff_getElem.1 hc
  have := h i (List.mem_range.2 hi)
  rw [show cAt p i = p[i] by simp [cAt, List.getD_eq_getElem?_getD, hi]] at this
  exact this
 ·intro h i hi
  have hl := List.mem_range.1 hi
  rw [show cAt p i = p[i] by simp [cAt, List.getD_eq_getElem?_getD, hl]]
  exact h _ (List.getElem_mem _)
theorem any_not_all (p : List Cb) (q : Cb → Bool) : (!p.any fun c => !q c) = p.all q := by
 rw [Bool.eq_iff_iff]
 simp
theorem part_ok (sol con : List Cb → Bool) (p : List Cb) (h : partOk sol con p = true) : sol p = true ∧ con p = true ∧ ∀ c ∈ p, inCb c 0 7 = true := by
 unfold partOk at h
 rw [any_not_all, Bool.and_eq_true, Bool.and_eq_true, List.all_eq_true] at h
 exact ⟨h.1, h.2.1, h.2.2⟩
theorem asm_eq (parts : List (List Cb)) : (parts.all (partOk solP conP) && clearP parts (zerosC parts.length)) = (List.range parts.length).all (rowOk parts) := by
 by_cases c : parts.all (partOk solP conP) = true
 ·rw [c, Bool.true_and]
  have hp : ∀ p ∈ parts, partOk solP conP p = true := List.all_eq_true.1 c
  have hzl : (zerosC parts.length).length = parts.length := List.length_replicate
  unfold clearP
  rw [hzl, Bool.eq_iff_iff, List.all_eq_true, List.all_eq_true]
  refine forall_congr' fun i => forall_congr' fun hi => ?_
  have hlt := List.mem_range.1 hi
  rw [show (zerosC parts.length).getD i ⟨0, 0, 0⟩ = oAt (zerosC parts.length) i from rfl, alone_eq parts _ i (by omega)]
  obtain ⟨a1, a2, a3⟩ := part_ok _ _ _ (hp _ (pAt_mem parts i hlt))
  unfold rowOk
  rw [a1, a2, all_at (pAt parts i) (fun c => inCb c 0 7), List.all_eq_true.2 a3, Bool.true_and, Bool.true_and, Bool.true_and]
  have : ∀ j ∈ List.range i, (!pairT parts (zerosC parts.length) i j) = (!meetS (pAt parts i) (pAt parts j)) := fun j hj => by
   have hj' := List.mem_range.1 hj
   obtain ⟨_, _, b3⟩ := part_ok _ _ _ (hp _ (pAt_mem parts j (by omega)))
   congr 1
   unfold pairT touchP meetS
   rw [zeros_at, zeros_at, ← pair_same _ _ _ _ a3 b3 (by decide) (by decide), map_zero_in _ a3, map_zero_in _ b3]
  rw [List.all_eq_true, List.all_eq_true]
  constructor
  ·intro h j hj
   rw [← this j hj]; exact h j hj
  ·intro h j hj
   rw [this j hj]; exact h j hj
 ·have h0 := Bool.eq_false_iff.mpr c
  rw [h0, Bool.false_and]
  symm
  rw [Bool.eq_false_iff]
  intro hall
  rw [List.all_eq_true] at hall
  refine c (List.all_eq_true.2 fun p hp => ?_)
  obtain ⟨i, hi, rfl⟩ := List.mem_iff_getElem.1 hp
  have h1 := hall i (List.mem_range.2 hi)
  have e : pAt parts i = parts[i] := by unfold pAt partAt; simp [hi]
  unfold rowOk at h1
  rw [e, all_at parts[i] (fun c => inCb c 0 7), Bool.and_eq_true, Bool.and_eq_true, Bool.and_eq_true] at h1
  unfold partOk
  rw [any_not_all, h1.1, h1.2.1, h1.2.2.1]
  rfl
theorem asm_same (parts : List (List Cb)) : asmS parts = isAsmP solP conP parts := by
 unfold asmS isAsmP
 rw [asm_eq]
end Go.Proofs.Ytlbckkagjekhnaa.A
/- Arguments of a law opened as plain data, kind by kind: what can be read at a type is a value of its kind. -/
namespace Go.Proofs.Ytlbckkagjekhnaa.Opn
open Go.RowKit Go.Proofs.YtlbckkagjekhnaaW.PrintWords
def Op {α : Type} (P : Program) (t : TypeId) (d : Kd α) (ok : α → Prop) : Prop :=
 ∀ (H : Type) (enc : TypeId × Value → H) (W : World) (fuel : Nat) (cs : List Value) (x : DataW H × List MemPlace),
  DataW.trod enc P W 0 (fun _ => true) true fuel t cs = some x → ∃ a : α, d.K W a cs ∧ ok a
def OpF {α : Type} (P : Program) (o : Nat) (fs : List Field) (d : Kd α) (ok : α → Prop) : Prop :=
 ∀ (H : Type) (enc : TypeId × Value → H) (W : World) (fuel : Nat) (cs : List Value) (xs : List (DataW H × List MemPlace)), cs.length = o + d.sz →
  xs.length = fs.length → (∀ (i : Nat) (f : Field), fs[i]? = some f → DataW.trod enc P W 0 (fun _ => true) true fuel f.type ((cs.drop f.offset).take (P.cellsOf f.type)) = xs[i]?) → ∃ a : α, d.K W a (cs.drop o) ∧ ok a
def okInt (k : IntKind) (n : Int) : Prop := (Lit.int k n).wf = true
def okAll {α : Type} (ok : α → Prop) (l : List α) : Prop := l.length ≤ maxLen ∧ ∀ x ∈ l, ok x
def okTwo {α β : Type} (ok : α → Prop) (ok' : β → Prop) (x : α × β) : Prop := ok x.1 ∧ ok' x.2
theorem Op.int {P : Program} {t : TypeId} {k : IntKind} (ht : P.underlying t = some (.int k)) : Op P t (Kd.int k) (okInt k) := by
 intro H enc W fuel cs x h
 obtain ⟨n, rfl, _, hw⟩ := DataW.trod_int ht h
 exact ⟨n, rfl, hw⟩
theorem Op.bool {P : Program} {t : TypeId} (ht : P.underlying t = some .bool) : Op P t Kd.bool (fun _ => True) := by
 intro H enc W fuel cs x h
 obtain ⟨b, rfl, _⟩ := DataW.trod_bool ht h
 exact ⟨b, rfl, trivial⟩
theorem Op.iso {α β : Type} {P : Program} {t : TypeId} {d : Kd α} {ok : α → Prop} (h : Op P t d ok) (f : β → α) (g : α → β) (hfg : ∀ a, f (g a) = a) : Op P t (Kd.iso d f) (fun b => ok (f b)) := by
 intro H enc W fuel cs x hx
 obtain ⟨a, ha, hok⟩ := h H enc W fuel cs x hx
 refine ⟨g a, ?_, ?_⟩
 ·show d.K W (f (g a)) cs
  rw [hfg]
  exact ha
 ·show ok (f (g a))
  rw [hfg]
  exact hok
theorem list_of_lt {α : Type} {p : Nat → α → Prop} : ∀ n, (∀ i, i < n → ∃ a, p i a) → ∃ l : List α, l.length = n ∧ ∀ i a, l[i]? = some a → p i a
 | 0, _ => ⟨[], rfl, fun i a h => by simp at h⟩
 | n + 1, h => by
  obtain ⟨l, hl, hp⟩ := list_of_lt n (fun i hi => h i (by omega))
  obtain ⟨a, ha⟩ := h n (by omega)
  refine ⟨l ++ [a], by simp [hl], fun i b hb => ?_⟩
  by_cases hi : i < l.length
  ·rw [List.getElem?_append_left hi] at hb
   exact hp i b hb
  ·have hlt : i < (l ++ [a]).length := (List.getElem?_eq_some_iff.1 hb).1
   simp at hlt
   have : i = l.length := by omega
   subst this
   have hab : a = b := by simpa using hb
   subst hab
   rw [hl]
   exact ha
theorem Op.slice {α : Type} {P : Program} {t e : TypeId} {d : Kd α} {ok : α → Prop} (ht : P.underlying t = some (.slice e)) (hc : P.cellsOf e = d.sz) (h : Op P e d ok) :
  Op P t (Kd.slice e d) (okAll ok) := by
 intro H enc W fuel cs x hx
 rcases Deep.open_slice ht hx with ⟨rfl, _⟩ | ⟨a, len, cap, m, n, D, Pl, rfl, hb, hl, hm, hmm, _, hel⟩
 ·exact ⟨[], ⟨none, 0, rfl, Nat.le_refl _, rfl, by simp, fun h => absurd h (by simp)⟩, by simp [okAll]⟩
 ·rw [if_pos rfl] at hmm
  subst hmm
  obtain ⟨l, hlen, hl2⟩ := list_of_lt (p := fun i (y : α) => (∃ c, c.length = d.sz ∧ d.K W y c ∧ ∀ j u, c[j]? = some u → W.cell? (a.add (i * d.sz + j)) = some u) ∧ ok y) len (fun i hi => by
   obtain ⟨cs', h1, h2⟩ := hel i (by omega)
   obtain ⟨y, hy, hok⟩ := h H enc W n cs' _ h2
   obtain ⟨_, h3, h4⟩ := World.cells?_some h1
   refine ⟨y, ⟨cs', d.K_len hy, hy, fun j u hu => ?_⟩, hok⟩
   have hj : j < P.cellsOf e := by rw [← h3]; exact (List.getElem?_eq_some_iff.1 hu).1
   have h5 := h4 j hj
   rw [← hu, ← h5, hc, Addr.add_add])
  unfold maxLen at hm
  refine ⟨l, ⟨some a, m, by rw [hlen], by omega, rfl, by omega, fun _ => ⟨a, rfl, fun j p hj => (hl2 j p hj).1⟩⟩, by unfold maxLen; omega, fun y hy => ?_⟩
  obtain ⟨i, hi, rfl⟩ := List.getElem_of_mem hy
  exact (hl2 i _ (List.getElem?_eq_getElem hi)).2
theorem OpF.one {α : Type} {P : Program} {o : Nat} {f : Field} {d : Kd α} {ok : α → Prop} (ho : f.offset = o) (hc : P.cellsOf f.type = d.sz) (h : Op P f.type d ok) : OpF P o [f] d ok := by
 intro H enc W fuel cs xs hl hn hx
 match xs, hn with
 | [y], _ =>
 have hy := hx 0 f rfl
 simp only [List.getElem?_cons_zero] at hy
 rw [ho, hc, List.take_of_length_le (by simp; omega)] at hy
 exact h H enc W fuel _ _ hy
theorem OpF.cons {α β : Type} {P : Program} {o : Nat} {f : Field} {fs : List Field} {d : Kd α} {d' : Kd β} {ok : α → Prop} {ok' : β → Prop} (ho : f.offset = o) (hc : P.cellsOf f.type = d.sz) (h : Op P f.type d ok)
  (hr : OpF P (o + d.sz) fs d' ok') : OpF P o (f :: fs) (Kd.pair d d') (okTwo ok ok') := by
 intro H enc W fuel cs xs hl hn hx
 match xs, hn with
 | y :: ys, hn =>
 have hy := hx 0 f rfl
 have hys : ∀ (i : Nat) (f : Field), fs[i]? = some f → DataW.trod enc P W 0 (fun _ => true) true fuel f.type ((cs.drop f.offset).take (P.cellsOf f.type)) = ys[i]? := fun i g hg => by simpa using hx (i + 1) g (by simpa using hg)
 simp only [List.getElem?_cons_zero] at hy
 rw [ho, hc] at hy
 obtain ⟨a, ha, hok⟩ := h H enc W fuel _ _ hy
 obtain ⟨b, hb, hok'⟩ := hr H enc W fuel cs ys (by rw [hl]; show o + (d.sz + d'.sz) = _; omega) (by simpa using hn) hys
 refine ⟨(a, b), ⟨_, _, ?_, ha, hb⟩, hok, hok'⟩
 rw [← List.drop_drop, List.take_append_drop]
theorem Op.struct {α : Type} {P : Program} {t : TypeId} {fs : Array Field} {d : Kd α} {ok : α → Prop} (ht : P.underlying t = some (.struct fs)) (hc : P.cellsOf t = d.sz) (h : OpF P 0 fs.toList d ok) : Op P t d ok := by
 intro H enc W fuel cs x hx
 obtain ⟨xs, n, _, _, hl, hn, hxs⟩ := DataW.trod_struct ht hx
 obtain ⟨a, ha, hok⟩ := h H enc W n cs xs (by omega) (by simpa using hn) (fun i f hf => hxs i f (by simpa using hf))
 exact ⟨a, by simpa using ha, hok⟩
end Go.Proofs.Ytlbckkagjekhnaa.Opn

namespace Go.Proofs.Ytlbckkagjekhnaa.A
open Go.RowKit Go.Proofs.YtlbckkagjekhnaaW.PrintWords Go.Proofs.YtlbckkagjekhnaaW.PrintLast Go.Proofs.YtlbckkagjekhnaaW.PrintMore
set_option linter.unusedVariables false
set_option linter.unusedSimpArgs false
section
attribute [local go_sem] max2_int min2_int max_two min_two max_three min_three max_four min_four
def laws_szCubeS.f (l0 : List (S71)) (a1 : Int) : Option (Int) := if (wrap64 (a1 - (l0.length : Int))) < 0 then (some (-1)) else (some (wrap64 (a1 - (l0.length : Int))))
set_option maxHeartbeats 8000000 in
set_option maxRecDepth 100000 in
theorem laws_szCubeS.calls (A0 : Option Addr) (c0 : Nat) (l0 : List (S71)) (a1 : Int) (r : Int) (w : World) (hr0 : Kd.C k71 w A0 l0.length l0) (hc0 : l0.length ≤ c0) (h : laws_szCubeS.f l0 a1 = some r) :
    Calls Try.prog 11 #[.slice A0 l0.length c0, .int .i64 a1] w fun e w' => e = .returned (.int .i64 r) ∧ Drawn0 w w' := by
 (have HR0 := A0_ hr0); (have HC0 := A0_ hc0); clear hr0 hc0; (have H : (if (wrap64 (a1 - (l0.length : Int))) < 0 then (some (-1)) else (some (wrap64 (a1 - (l0.length : Int))))) = some r := h); clear h; (by_cases c3 : (wrap64 (a1 - (l0.length : Int))) < 0)
 ·(rw [if_pos c3] at H); (have c3b0 : decide ((wrap64 (a1 - (l0.length : Int))) < 0) = true := decide_eq_true c3); clear c3; (obtain rfl := Option.some.inj H); (go_enter Try.func11, Try.ntmps11); go_wp2; go_ret; (exact ⟨by first | rfl | (simp; done) | (simp [*]; done), by repeat (first | exact Drawn0.refl _ | apply Drawn0.step)⟩)
 ·(rw [if_neg c3] at H); (have c3b0 : decide ((wrap64 (a1 - (l0.length : Int))) < 0) = false := decide_eq_false c3); clear c3; (obtain rfl := Option.some.inj H); (go_enter Try.func11, Try.ntmps11); go_wp2; go_ret; (exact ⟨by first | rfl | (simp; done) | (simp [*]; done), by repeat (first | exact Drawn0.refl _ | apply Drawn0.step)⟩)
end
section
attribute [local go_sem] max2_int min2_int max_two min_two max_three min_three max_four min_four
def laws_szCubeSS.l0 : Nat → List (List (S71)) → Int → Int → Option (Int)
  | 0, _, _, _ => none
  | k + 1, x0, x1, x5 => if x5 < (x0.length : Int) then (if 0 ≤ x5 then ((laws_szCubeS.f (rd_L2 x0 x5) x1).bind fun t102 => (if t102 < 0 then (some (-1)) else (laws_szCubeSS.l0 k x0 t102 (wrap64 (x5 + 1))))) else (none)) else (some x1)
def laws_szCubeSS.f (k : Nat) (l0 : List (List (S71))) (a1 : Int) : Option (Int) := if (wrap64 (a1 - (l0.length : Int))) < 0 then (some (-1)) else (laws_szCubeSS.l0 k l0 (wrap64 (a1 - (l0.length : Int))) 0)
set_option maxHeartbeats 8000000 in
set_option maxRecDepth 100000 in
theorem laws_szCubeSS.calls (k : Nat) (A0 : Option Addr) (c0 : Nat) (l0 : List (List (S71))) (a1 : Int) (r : Int) (w : World) (hr0 : Kd.C (Kd.slice 71 k71) w A0 l0.length l0) (hc0 : l0.length ≤ c0) (h : laws_szCubeSS.f k l0 a1 = some r) :
    Calls Try.prog 43 #[.slice A0 l0.length c0, .int .i64 a1] w fun e w' => e = .returned (.int .i64 r) ∧ Drawn0 w w' := by
 (have HR0 := A0_ hr0); (have HC0 := A0_ hc0); clear hr0 hc0; (have H : (if (wrap64 (a1 - (l0.length : Int))) < 0 then (some (-1)) else (laws_szCubeSS.l0 k l0 (wrap64 (a1 - (l0.length : Int))) 0)) = some r := h); clear h; (by_cases c3 : (wrap64 (a1 - (l0.length : Int))) < 0)
 ·(rw [if_pos c3] at H); (have c3b0 : decide ((wrap64 (a1 - (l0.length : Int))) < 0) = true := decide_eq_true c3); clear c3; (obtain rfl := Option.some.inj H); (go_enter Try.func43, Try.ntmps43); go_wp2; go_ret; (exact ⟨by first | rfl | (simp; done) | (simp [*]; done), by repeat (first | exact Drawn0.refl _ | apply Drawn0.step)⟩)
 ·(rw [if_neg c3] at H); (have c3b0 : decide ((wrap64 (a1 - (l0.length : Int))) < 0) = false := decide_eq_false c3); clear c3; (have H' := A0_ H); clear H; (go_enter Try.func43, Try.ntmps43); go_wp2
  go_loopg [1, 5] k (fun kq v1 v5 w' => ∃ (x1_1 : Int) (x5_1 : Int), v1 = .int .i64 x1_1 ∧ v5 = .int .i64 x5_1 ∧ Aside0 (laws_szCubeSS.l0 kq l0 x1_1 x5_1 = some r) ∧ Aside0 (kq ≤ k) ∧ Drawn0 w w')
  case atStart => exact ⟨(wrap64 (a1 - (l0.length : Int))), (0), (by first | rfl | (simp; done) | (simp [*]; done)), (by first | rfl | (simp; done) | (simp [*]; done)), H', ⟨Nat.le_refl _⟩, by repeat (first | exact Drawn0.refl _ | apply Drawn0.step)⟩
  case round =>
   clear H'; (try clear p2); (try clear c3); (try clear c3b0); (obtain ⟨x1_1, x5_1, rfl, rfl, HA, HK1, ⟨m1, rfl⟩⟩ := hrel)
   cases gk with
   | zero => exact absurd HA.out (by simp [laws_szCubeSS.l0])
   | succ k1 =>
    (have H := HA.out); clear HA; (simp only [laws_szCubeSS.l0] at H); (by_cases c4 : x5_1 < (l0.length : Int))
    ·(rw [if_pos c4] at H); (have c4b0 : decide (x5_1 < (l0.length : Int)) = true := decide_eq_true c4); clear c4; (by_cases c5 : 0 ≤ x5_1)
     ·(rw [if_pos c5] at H); (have c5b0 : decide (0 ≤ x5_1) = true := decide_eq_true c5); clear c5; (replace H := Option.bind_eq_some_iff.mp H); (obtain ⟨t102, A60, H⟩ := H); (try dsimp only at H); (have A6 := A0_ A60); clear A60; (have H0_ := A0_ H); clear H; (have p101 : 0 ≤ (x5_1 : Int) := of_decide_eq_true as_); (have q101 : x5_1 < (l0.length : Int) := of_decide_eq_true as_); (obtain ⟨ad101, A101_0, c101_0, e101, hx101_0, hl101_0, hi101_0⟩ := at_L2 HR0.out x5_1 p101 q101); (cases e101); (have HR101_0 := A0_ hi101_0); (have HC101_0 := A0_ hl101_0); clear hi101_0 hl101_0; (replace p101 := eq_true p101); (replace q101 := eq_true q101); (go_wp2_with (first | ((with_reducible refine gate_callee (f := 11) rfl ?_); refine goesL_ (some 23) rfl rfl Try.func11 (by kernel_rfl) rfl #[.slice A101_0 (rd_L2 l0 x5_1).length c101_0, .int .i64 x1_1] rfl (by (try simp only [List.map_toArray, List.map_cons, List.map_nil]); first | done | rfl | (simp only [List.length_drop, List.length_take]; rfl)) ?_; (with_reducible refine (laws_szCubeS.calls _ _ (rd_L2 l0 x5_1) x1_1 t102 _ ?side1 ?side2 A6.out).mono ?_); (case side1 => repeat (first | exact HR101_0.out | (with_reducible refine Kd.C_alloc ?_ _) | (with_reducible refine Kd.C_drewN ?_ _) | (with_reducible refine Kd.C_drew ?_))); (case side2 => exact HC101_0.out); rintro e w' ⟨rfl, ⟨nd, rfl⟩⟩; refine ⟨_, rfl, ?_⟩; refine Stop0.out ?_))); (refine Stop0.mk ?_); (have H := H0_.out); clear H0_; (by_cases c7 : t102 < 0)
      ·(rw [if_pos c7] at H); (have c7b0 : decide (t102 < 0) = true := decide_eq_true c7); clear c7; (obtain rfl := Option.some.inj H); go_wp2; go_ret; (exact ⟨by first | rfl | (simp; done) | (simp [*]; done), by repeat (first | exact Drawn0.refl _ | apply Drawn0.step)⟩)
      ·(rw [if_neg c7] at H); (have c7b0 : decide (t102 < 0) = false := decide_eq_false c7); clear c7; (have H' := A0_ H); clear H; go_wp2; (go_roundg k1)
       case measure => have := HK1.out; omega
       case rel => exact ⟨(t102), (wrap64 (x5_1 + 1)), (by first | rfl | (simp; done) | (simp [*]; done)), (by first | rfl | (simp; done) | (simp [*]; done)), H', ⟨by have := HK1.out; omega⟩, by repeat (first | exact Drawn0.refl _ | apply Drawn0.step)⟩
     ·(rw [if_neg c5] at H); (exact absurd H (by simp))
    ·(rw [if_neg c4] at H); (have c4b0 : decide (x5_1 < (l0.length : Int)) = false := decide_eq_false c4); clear c4; (obtain rfl := Option.some.inj H); go_wp2; go_ret; (exact ⟨by first | rfl | (simp; done) | (simp [*]; done), by repeat (first | exact Drawn0.refl _ | apply Drawn0.step)⟩)
end
section
attribute [local go_sem] max2_int min2_int max_two min_two max_three min_three max_four min_four
def laws_szAssembly.f (k : Nat) (l0_0 : List (List (S71))) (a1 : Int) : Option (Int) := (laws_szCubeSS.f k l0_0 a1).bind fun t104 => (if t104 < 0 then (some (-1)) else (some t104))
set_option maxHeartbeats 8000000 in
set_option maxRecDepth 100000 in
theorem laws_szAssembly.calls (k : Nat) (A0_0 : Option Addr) (c0_0 : Nat) (l0_0 : List (List (S71))) (a1 : Int) (r : Int) (w : World) (hr0_0 : Kd.C (Kd.slice 71 k71) w A0_0 l0_0.length l0_0) (hc0_0 : l0_0.length ≤ c0_0) (h : laws_szAssembly.f k l0_0 a1 = some r) :
    Calls Try.prog 10 #[.agg #[.slice A0_0 l0_0.length c0_0], .int .i64 a1] w fun e w' => e = .returned (.int .i64 r) ∧ Below w.heap.size w w' := by
 (have hu24 := Try.underlying24); (have HR0_0 := A0_ hr0_0); (have HC0_0 := A0_ hc0_0); clear hr0_0 hc0_0; (have HB := A0_ (Below.refl w.heap.size w))
 have H : ((laws_szCubeSS.f k l0_0 a1).bind fun t104 => (if t104 < 0 then (some (-1)) else (some t104))) = some r := h
 clear h; (replace H := Option.bind_eq_some_iff.mp H); (obtain ⟨t104, A30, H⟩ := H); (try dsimp only at H); (have A3 := A0_ A30); clear A30; (have H0_ := A0_ H); clear H; (go_enter Try.func10, Try.ntmps10); (go_wp2_with (first | ((with_reducible refine gate_dst (N := 2) rfl ?_); refine be_ (N := 2) (cs := #[.slice A0_0 l0_0.length c0_0]) (t := 24) ?_; intro gb103 hg w4 hbox hb; have n0_ := A0_ (below_step bw_ hb); have n1_ := A0_ (hbox); have n2_ := A0_ ((by rw [hg]; exact (below_size bw_) : w.heap.size ≤ gb103)); have n3_ := A0_ ((by rw [hg]; exact (below_size bw_) : w.heap.size ≤ gb103)); clear HB; have HB := n0_; have BK103 := n1_; have GW103 := n2_; have GE103 := n3_; clear n0_ n1_ n2_ n3_; clear hb hbox hg; have hcz5_0 : w4.cell? ⟨gb103, 0, none⟩ = some (.slice A0_0 l0_0.length c0_0) := (blk_cell BK103.out 0).trans rfl; have hfz5_0 := blk_frozen BK103.out 0) | ((with_reducible refine gate_callee (f := 43) rfl ?_); refine goesL_ (some 8) rfl rfl Try.func43 (by kernel_rfl) rfl #[.slice A0_0 l0_0.length c0_0, .int .i64 a1] rfl (by (try simp only [List.map_toArray, List.map_cons, List.map_nil]); first | done | rfl | (simp only [List.length_drop, List.length_take]; rfl)) ?_; (with_reducible refine (laws_szCubeSS.calls k _ _ l0_0 a1 t104 _ ?side1 ?side2 A3.out).mono ?_); (case side1 => repeat (first | exact (Kd.C_below HR0_0.out HB.out) | (with_reducible refine Kd.C_alloc ?_ _) | (with_reducible refine Kd.C_drewN ?_ _) | (with_reducible refine Kd.C_drew ?_))); (case side2 => exact HC0_0.out); rintro e w' ⟨rfl, ⟨nd, rfl⟩⟩; refine ⟨_, rfl, ?_⟩; refine Stop0.out ?_))); (refine Stop0.mk ?_); (have H := H0_.out); clear H0_; (by_cases c6 : t104 < 0)
 ·(rw [if_pos c6] at H); (have c6b0 : decide (t104 < 0) = true := decide_eq_true c6); clear c6; (obtain rfl := Option.some.inj H); go_wp2; go_ret; (exact ⟨er_, bx_⟩)
 ·(rw [if_neg c6] at H); (have c6b0 : decide (t104 < 0) = false := decide_eq_false c6); clear c6; (obtain rfl := Option.some.inj H); go_wp2; go_ret; (exact ⟨er_, bx_⟩)
end
section
attribute [local go_sem] max2_int min2_int max_two min_two max_three min_three max_four min_four
def laws_toCube.f (a0_0 : Int) (a0_1 : Int) (a0_2 : Int) : Option (Int × Int × Int) := some (a0_0, a0_1, a0_2)
set_option maxHeartbeats 8000000 in
set_option maxRecDepth 100000 in
theorem laws_toCube.calls (a0_0 : Int) (a0_1 : Int) (a0_2 : Int) (r1 : Int) (r2 : Int) (r3 : Int) (w : World) (h : laws_toCube.f a0_0 a0_1 a0_2 = some (r1, r2, r3)) :
    Calls Try.prog 48 #[.agg #[.int .i64 a0_0, .int .i64 a0_1, .int .i64 a0_2]] w fun e w' => e = .returned (.agg #[.int .i64 r1, .int .i64 r2, .int .i64 r3]) ∧ Below w.heap.size w w' := by
 (have hu71 := Try.underlying71); (have hu69 := Try.underlying69); (have HB := A0_ (Below.refl w.heap.size w)); (have H : (some (a0_0, a0_1, a0_2)) = some (r1, r2, r3) := h); clear h; (simp only [Option.some.injEq, Prod.mk.injEq] at H); (obtain ⟨rfl, rfl, rfl⟩ := H); (go_enter Try.func48, Try.ntmps48); (go_wp2_with (first | ((with_reducible refine gate_dst (N := 1) rfl ?_); refine be_ (N := 1) (cs := #[.int .i64 a0_0, .int .i64 a0_1, .int .i64 a0_2]) (t := 71) ?_; intro gb221 hg w2 hbox hb; have n0_ := A0_ (below_step bw_ hb); have n1_ := A0_ (hbox); have n2_ := A0_ ((by rw [hg]; exact (below_size bw_) : w.heap.size ≤ gb221)); have n3_ := A0_ ((by rw [hg]; exact (below_size bw_) : w.heap.size ≤ gb221)); clear HB; have HB := n0_; have BK221 := n1_; have GW221 := n2_; have GE221 := n3_; clear n0_ n1_ n2_ n3_; clear hb hbox hg) | ((with_reducible refine gate_dst (N := 2) rfl ?_); refine be_ (N := 2) (cs := #[.int .i64 0, .int .i64 0, .int .i64 0]) (t := 69) ?_; intro gb222 hg w3 hbox hb; have n0_ := A0_ (blk_below (g := gb221) (o := .cells #[.int .i64 a0_0, .int .i64 a0_1, .int .i64 a0_2] 71 (0, 0)) (bk_ BK221) hb); have n1_ := A0_ (below_step bx_ hb); have n2_ := A0_ (hbox); have n3_ := A0_ ((by rw [hg]; exact (below_size bx_) : w.heap.size ≤ gb222)); have n4_ := A0_ ((by rw [hg]; exact (below_size bx_) : w.heap.size ≤ gb222)); have n5_ := A0_ ((by rw [hg]; exact Nat.ne_of_lt (blk_lt (g := gb221) (o := .cells #[.int .i64 a0_0, .int .i64 a0_1, .int .i64 a0_2] 71 (0, 0)) (bk_ BK221)) : gb221 ≠ gb222)); have n6_ := A0_ ((by rw [hg]; exact Nat.ne_of_gt (blk_lt (g := gb221) (o := .cells #[.int .i64 a0_0, .int .i64 a0_1, .int .i64 a0_2] 71 (0, 0)) (bk_ BK221)) : gb222 ≠ gb221)); clear BK221; clear HB; have BK221 := n0_; have HB := n1_; have BK222 := n2_; have GW222 := n3_; have GE222 := n4_; have NB221_222 := n5_; have NB222_221 := n6_; clear n0_ n1_ n2_ n3_ n4_ n5_ n6_; clear hb hbox hg) | ((with_reducible refine gate_dst (N := 3) rfl ?_); refine be_ (N := 3) (cs := #[.int .i64 0, .int .i64 0, .int .i64 0]) (t := 69) ?_; intro gb223 hg w4 hbox hb; have n0_ := A0_ (blk_below (g := gb221) (o := .cells #[.int .i64 a0_0, .int .i64 a0_1, .int .i64 a0_2] 71 (0, 0)) (bk_ BK221) hb); have n1_ := A0_ (blk_below (g := gb222) (o := .cells #[.int .i64 0, .int .i64 0, .int .i64 0] 69 (0, 0)) (bk_ BK222) hb); have n2_ := A0_ (below_step bx_ hb); have n3_ := A0_ (hbox); have n4_ := A0_ ((by rw [hg]; exact (below_size bx_) : w.heap.size ≤ gb223)); have n5_ := A0_ ((by rw [hg]; exact (below_size bx_) : w.heap.size ≤ gb223)); have n6_ := A0_ ((by rw [hg]; exact Nat.ne_of_lt (blk_lt (g := gb221) (o := .cells #[.int .i64 a0_0, .int .i64 a0_1, .int .i64 a0_2] 71 (0, 0)) (bk_ BK221)) : gb221 ≠ gb223)); have n7_ := A0_ ((by rw [hg]; exact Nat.ne_of_gt (blk_lt (g := gb221) (o := .cells #[.int .i64 a0_0, .int .i64 a0_1, .int .i64 a0_2] 71 (0, 0)) (bk_ BK221)) : gb223 ≠ gb221)); have n8_ := A0_ ((by rw [hg]; exact Nat.ne_of_lt (blk_lt (g := gb222) (o := .cells #[.int .i64 0, .int .i64 0, .int .i64 0] 69 (0, 0)) (bk_ BK222)) : gb222 ≠ gb223)); have n9_ := A0_ ((by rw [hg]; exact Nat.ne_of_gt (blk_lt (g := gb222) (o := .cells #[.int .i64 0, .int .i64 0, .int .i64 0] 69 (0, 0)) (bk_ BK222)) : gb223 ≠ gb222)); clear BK221; clear BK222; clear HB; have BK221 := n0_; have BK222 := n1_; have HB := n2_; have BK223 := n3_; have GW223 := n4_; have GE223 := n5_; have NB221_223 := n6_; have NB223_221 := n7_; have NB222_223 := n8_; have NB223_222 := n9_; clear n0_ n1_ n2_ n3_ n4_ n5_ n6_ n7_ n8_ n9_; clear hb hbox hg; have hnb5 := NB221_222.out; have hnc5 := NB222_221.out; have hnb6 := NB221_223.out; have hnc6 := NB223_221.out; have hcz7_0 : w4.cell? ⟨gb221, 0, none⟩ = some (.int .i64 a0_0) := (blk_cell BK221.out 0).trans rfl; have hcz7_1 : w4.cell? ⟨gb221, 1, none⟩ = some (.int .i64 a0_1) := (blk_cell BK221.out 1).trans rfl; have hcz7_2 : w4.cell? ⟨gb221, 2, none⟩ = some (.int .i64 a0_2) := (blk_cell BK221.out 2).trans rfl; have hfz7_0 := blk_frozen BK221.out 0; have hfz7_1 := blk_frozen BK221.out 1; have hfz7_2 := blk_frozen BK221.out 2; have hnb8 := NB223_222.out; have hnc8 := NB222_223.out; have hcz9_0 : w4.cell? ⟨gb223, 0, none⟩ = some (.int .i64 0) := (blk_cell BK223.out 0).trans rfl; have hcz9_1 : w4.cell? ⟨gb223, 1, none⟩ = some (.int .i64 0) := (blk_cell BK223.out 1).trans rfl; have hcz9_2 : w4.cell? ⟨gb223, 2, none⟩ = some (.int .i64 0) := (blk_cell BK223.out 2).trans rfl; have hfz9_0 := blk_frozen BK223.out 0; have hfz9_1 := blk_frozen BK223.out 1; have hfz9_2 := blk_frozen BK223.out 2; have hcz10_0 : w4.cell? ⟨gb222, 0, none⟩ = some (.int .i64 0) := (blk_cell BK222.out 0).trans rfl; have hcz10_1 : w4.cell? ⟨gb222, 1, none⟩ = some (.int .i64 0) := (blk_cell BK222.out 1).trans rfl; have hcz10_2 : w4.cell? ⟨gb222, 2, none⟩ = some (.int .i64 0) := (blk_cell BK222.out 2).trans rfl; have hfz10_0 := blk_frozen BK222.out 0; have hfz10_1 := blk_frozen BK222.out 1; have hfz10_2 := blk_frozen BK222.out 2))); (refine bodyPost_ret (results_cell_row rfl _ _ gb222 69 #[.int .i64 a0_0, .int .i64 a0_1, .int .i64 a0_2] (0, 0) _ rfl (by (with_reducible repeat (first | apply gn_ | apply gd_ | apply ga_)); refine blk_put (cs := #[.int .i64 a0_0, .int .i64 a0_1, .int .i64 0]) ?_ 2 _ rfl; (with_reducible repeat (first | apply gn_ | apply gd_ | apply ga_)); refine blk_put (cs := #[.int .i64 a0_0, .int .i64 0, .int .i64 0]) ?_ 1 _ rfl; (with_reducible repeat (first | apply gn_ | apply gd_ | apply ga_)); refine blk_put (cs := #[.int .i64 0, .int .i64 0, .int .i64 0]) ?_ 0 _ rfl; (with_reducible repeat (first | apply gn_ | apply gd_ | apply ga_)); refine blk_far ?_ NB222_223.out _; (with_reducible repeat (first | apply gn_ | apply gd_ | apply ga_)); refine blk_far ?_ NB222_223.out _; (with_reducible repeat (first | apply gn_ | apply gd_ | apply ga_)); refine blk_far ?_ NB222_223.out _; (with_reducible repeat (first | apply gn_ | apply gd_ | apply ga_)); exact BK222.out) Try.underlying69 rfl (by kernel_rfl)) rfl ?_); (exact ⟨er_, bx_⟩)
end
section
attribute [local go_sem] max2_int min2_int max_two min_two max_three min_three max_four min_four
def laws_toCubeS.l0 : Nat → List (S71) → List (S69) → Int → Option ((List (S69)))
  | 0, _, _, _ => none
  | k + 1, x0, x3, x4 => if x4 < (x0.length : Int) then (if 0 ≤ x4 then ((laws_toCube.f ((rd_T71 x0 x4).f0) ((rd_T71 x0 x4).f1) ((rd_T71 x0 x4).f2)).bind fun bt228 => (if x4 < (x3.length : Int) then (laws_toCubeS.l0 k x0 (x3.set (x4 : Int).toNat (⟨bt228.1, bt228.2.1, bt228.2.2⟩ : S69)) (wrap64 (x4 + 1))) else (none))) else (none)) else (some x3)
def laws_toCubeS.f (k : Nat) (l0 : List (S71)) : Option ((List (S69))) := if 0 ≤ (l0.length : Int) then (if ((l0.length : Int) : Int).toNat ≤ 11728124029610 then (laws_toCubeS.l0 k l0 (List.replicate ((l0.length : Int) : Int).toNat z69) 0) else (none)) else (none)
set_option maxHeartbeats 8000000 in
set_option maxRecDepth 100000 in
theorem laws_toCubeS.calls (k : Nat) (A0 : Option Addr) (c0 : Nat) (l0 : List (S71)) (r : List (S69)) (w : World) (hr0 : Kd.C k71 w A0 l0.length l0) (hc0 : l0.length ≤ c0) (h : laws_toCubeS.f k l0 = some r) :
    Calls Try.prog 14 #[.slice A0 l0.length c0] w fun e w' => ∃ v0_ : Value, e = .returned (v0_) ∧ Kd.R k69 69 w' w.heap.size (fun _ => True) v0_ r ∧ Below w.heap.size w w' := by
 (have hu71 := Try.underlying71); (have hu69 := Try.underlying69); (have HR0 := A0_ hr0); (have HC0 := A0_ hc0); clear hr0 hc0; (have HB := A0_ (Below.refl w.heap.size w)); (have H : (if 0 ≤ (l0.length : Int) then (if ((l0.length : Int) : Int).toNat ≤ 11728124029610 then (laws_toCubeS.l0 k l0 (List.replicate ((l0.length : Int) : Int).toNat z69) 0) else (none)) else (none)) = some r := h); clear h; (by_cases c2 : 0 ≤ (l0.length : Int))
 ·(rw [if_pos c2] at H); (have c2b0 := eq_true c2); (have c2b1 : decide (0 ≤ (l0.length : Int)) = true := decide_eq_true c2); clear c2; (by_cases c3 : ((l0.length : Int) : Int).toNat ≤ 11728124029610)
  ·(rw [if_pos c3] at H); (have c3b0 := eq_true c3); (have c3b1 : decide (((l0.length : Int) : Int).toNat ≤ 11728124029610) = true := decide_eq_true c3); clear c3; (obtain ⟨y224, hy224⟩ : ∃ y_ : List (S69), y_ = (List.replicate ((l0.length : Int) : Int).toNat z69) := ⟨_, rfl⟩); (replace H : (laws_toCubeS.l0 k l0 y224 0) = some r := by first | (rw [hy224]; with_reducible exact H) | (have H2_ := (Option.bind_some _ _).symm.trans H; rw [hy224]; with_reducible exact H2_) | (have H2_ := (Option.bind_some _ _).symm.trans H; with_reducible exact H2_) | with_reducible exact H | (rw [hy224]; exact H) | exact H); (have Ny224 := A0_ hy224); clear hy224; (have H' := A0_ H); clear H; (go_enter Try.func14, Try.ntmps14)
   go_wp2_with (first | ((with_reducible refine gate_dst (N := 7) rfl ?_); refine Kd.R_make k69 _ 69 rfl (N := 7) rfl 34 _ _ rfl (l0.length : Int) rfl rfl Try.underlying34 (.agg #[(.int .i64 0), (.int .i64 0), (.int .i64 0)]) 24 info69 rfl (by decide) (by omega) z69 (ok := fun _ => True) (okp := fun _ => True) (k69_mkM _ _ _ z69 ) (fun _ hk => hk) trivial (of_decide_eq_true as_) (Nat.le_trans (Nat.mul_le_mul_right _ (of_decide_eq_true as_ : (l0.length : Int).toNat ≤ 11728124029610)) (by omega)) (Below.refl _ _) (Nat.le_refl _) ?_; intro v225 w4 ho5 hb hg_ hnew_; clear hg_ hnew_; (first | rw [← Ny224.out] at ho5 | (simp only [Int.reduceToNat] at ho5; rw [← Ny224.out] at ho5)); have n0_ := A0_ (Kd.R_lower ho5 (below_size bw_)); have n1_ := A0_ (below_step bw_ hb); clear HB; have HO226 := n0_; have HB := n1_; clear n0_ n1_; clear hb ho5))
   go_loopg [4] k (fun kq v4 w' => ∃ (x3_1 : List (S69)) (x4_1 : Int), v4 = .int .i64 x4_1 ∧ Aside0 (laws_toCubeS.l0 kq l0 x3_1 x4_1 = some r) ∧ Aside0 (kq ≤ k) ∧ Aside0 (Kd.R k69 69 w' w.heap.size (fun _ => True) v225 x3_1) ∧ Aside0 (Below w.heap.size w w'))
   case atStart => exact ⟨(y224), (0), (by first | rfl | (simp; done) | (simp [*]; done)), H', ⟨Nat.le_refl _⟩, ⟨by (with_reducible repeat (first | apply Ra_ | apply Rn_ | apply Rd_)); exact HO226.out⟩, ⟨by repeat (first | (with_reducible first | exact HB.out | apply ba_ | apply bn_ | apply bd_) | exact HB.out)⟩⟩
   case round =>
    clear H'; (try clear c1); (try clear c2); (try clear c2b0); (try clear c2b1); (try clear p2); (try clear c3); (try clear c3b0); (try clear c3b1); (obtain ⟨x3_1, x4_1, rfl, HA, HK1, HO_3, HB⟩ := hrel)
    cases gk with
    | zero => exact absurd HA.out (by simp [laws_toCubeS.l0])
    | succ k1 =>
     (have H := HA.out); clear HA; (simp only [laws_toCubeS.l0] at H); (by_cases c6 : x4_1 < (l0.length : Int))
     ·(rw [if_pos c6] at H); (have c6b0 : decide (x4_1 < (l0.length : Int)) = true := decide_eq_true c6); clear c6; (by_cases c7 : 0 ≤ x4_1)
      ·(rw [if_pos c7] at H); (have c7b0 : decide (0 ≤ x4_1) = true := decide_eq_true c7); clear c7; (replace H := Option.bind_eq_some_iff.mp H); (obtain ⟨⟨t228, t229, t230⟩, A80, H⟩ := H); (try dsimp only at H); (have A8 := A0_ A80); clear A80; (have H0_ := A0_ H); clear H; (have p227 : 0 ≤ (x4_1 : Int) := of_decide_eq_true as_); (have q227 : x4_1 < (l0.length : Int) := of_decide_eq_true as_); (obtain ⟨ad227, e227, hx227_0, hx227_1, hx227_2⟩ := at_T71 HR0.out x4_1 p227 q227); (cases e227); (replace hx227_0 := (HB.out.cell (World.block_lt_of_cell? w _ hx227_0)).trans hx227_0); (replace hx227_1 := (HB.out.cell (World.block_lt_of_cell? w _ hx227_1)).trans hx227_1); (replace hx227_2 := (HB.out.cell (World.block_lt_of_cell? w _ hx227_2)).trans hx227_2); (replace p227 := eq_true p227); (replace q227 := eq_true q227); (go_wp2_with (first | ((with_reducible refine gate_callee (f := 48) rfl ?_); refine goesL_ (some 20) rfl rfl Try.func48 (by kernel_rfl) rfl #[.agg #[.int .i64 ((rd_T71 l0 x4_1).f0), .int .i64 ((rd_T71 l0 x4_1).f1), .int .i64 ((rd_T71 l0 x4_1).f2)]] rfl (by (try simp only [List.map_toArray, List.map_cons, List.map_nil]); first | done | rfl | (simp only [List.length_drop, List.length_take]; rfl)) ?_; (with_reducible refine (laws_toCube.calls ((rd_T71 l0 x4_1).f0) ((rd_T71 l0 x4_1).f1) ((rd_T71 l0 x4_1).f2) t228 t229 t230 _ A8.out).mono ?_); rintro e w9 ⟨rfl, hb⟩; refine ⟨_, rfl, ?_⟩; have n0_ := A0_ (Kd.R_below (by (with_reducible repeat (first | apply Ra_ | apply Rn_ | apply Rd_)); exact HO_3.out) hb); have n1_ := A0_ (below_step bw_ hb); clear HO_3; clear HB; have HO_3 := n0_; have HB := n1_; clear n0_ n1_; (try clear hb); (try clear hb2); (try clear hk); (try clear hi); refine Stop0.out ?_))); (refine Stop0.mk ?_); (have H := H0_.out); clear H0_; (by_cases c10 : x4_1 < (x3_1.length : Int))
       ·(rw [if_pos c10] at H); (have c10b0 : decide (x4_1 < (x3_1.length : Int)) = true := decide_eq_true c10); clear c10; (obtain ⟨y231, hy231⟩ : ∃ y_ : List (S69), y_ = (x3_1.set (x4_1 : Int).toNat (⟨t228, t229, t230⟩ : S69)) := ⟨_, rfl⟩); (replace H : (laws_toCubeS.l0 k1 l0 y231 (wrap64 (x4_1 + 1))) = some r := by first | (rw [hy231]; with_reducible exact H) | (have H2_ := (Option.bind_some _ _).symm.trans H; rw [hy231]; with_reducible exact H2_) | (have H2_ := (Option.bind_some _ _).symm.trans H; with_reducible exact H2_) | with_reducible exact H | (rw [hy231]; exact H) | exact H); (have Ny231 := A0_ hy231); clear hy231; (have H' := A0_ H); clear H; (have p11 : 0 ≤ (x4_1 : Int) := of_decide_eq_true as_); (have q11 : (x4_1 : Int) < ((x3_1.length : Int) : Int) := of_decide_eq_true as_); (obtain ⟨go11, co11, eo11, gb11, gl11, cl11, HG11⟩ := Kd.R_form HO_3.out (by omega)); ((first | cases eo11 | (injection eo11 with ea_ en_ ec_; (first | subst ea_ | (injection ea_ with ea_; subst ea_)); subst ec_; clear en_))); (have GB11 := A0_ gb11); (have GG11 := A0_ HG11); clear gb11 gl11 HG11; (obtain ⟨ce11, hcl11, hM11, hcc11, hfr11⟩ := Kd.R_elem HO_3.out z69 (x4_1 : Int) p11 q11); (obtain rfl := k69_openM hM11); (have hx11_0 : w9.cell? ⟨go11, (x4_1 : Int).toNat * 3, none⟩ = some (.int .i64 ((rd_T69 x3_1 x4_1).f0)) := hcc11 0 _ rfl); (have hx11_1 : w9.cell? ⟨go11, (x4_1 : Int).toNat * 3 + 1, none⟩ = some (.int .i64 ((rd_T69 x3_1 x4_1).f1)) := hcc11 1 _ rfl); (have hx11_2 : w9.cell? ⟨go11, (x4_1 : Int).toNat * 3 + 2, none⟩ = some (.int .i64 ((rd_T69 x3_1 x4_1).f2)) := hcc11 2 _ rfl); (have hf11_0 : w9.frozen? ⟨go11, (x4_1 : Int).toNat * 3, none⟩ = false := hfr11 0); (have hf11_1 : w9.frozen? ⟨go11, (x4_1 : Int).toNat * 3 + 1, none⟩ = false := hfr11 1); (have hf11_2 : w9.frozen? ⟨go11, (x4_1 : Int).toNat * 3 + 2, none⟩ = false := hfr11 2); clear hcl11 hcc11 hfr11 hM11; (replace p11 := eq_true p11); (replace q11 := eq_true q11)
        have HX12 := A0_ (show Kd.R k69 69 w9 w.heap.size (fun _ => True) (.slice (some ⟨go11, 0, none⟩) x3_1.length co11) x3_1 from (by (with_reducible repeat (first | apply Ra_ | apply Rn_ | apply Rd_)); exact HO_3.out))
        (obtain ⟨ce12, hcl12, hM12, hcc12, hfr12⟩ := Kd.R_elem HX12.out z69 (x4_1 : Int) (of_decide_eq_true as_) (by have h_ : (x4_1 : Int) < ((x3_1.length : Int) : Int) := of_decide_eq_true as_; first | exact h_ | (have e_ := (Kd.R_reads' HO_3.out).1; omega) | simpa using h_)); (obtain rfl := k69_openM hM12)
        have HP12 := Kd.R_seg HX12.out (x4_1 : Int) (of_decide_eq_true as_) (by have h_ : (x4_1 : Int) < ((x3_1.length : Int) : Int) := of_decide_eq_true as_; first | exact h_ | (have e_ := (Kd.R_reads' HO_3.out).1; omega) | simpa using h_) (seg := [.int .i64 t228, .int .i64 t229, .int .i64 t230]) (j := 0) hcl12 hcc12 (show 3 ≤ 3 from by decide) (x' := (⟨t228, t229, t230⟩ : S69)) (k69_mkM _ _ _ (⟨t228, t229, t230⟩ : S69) ) (fun _ hk => hk)
        (have hx12_0 := hcc12 0 _ rfl); ((try simp only [show (k69).sz = 3 from rfl, Nat.mul_one, Nat.add_zero] at hx12_0)); (have hf12_0 := hfr12 0); ((try simp only [show (k69).sz = 3 from rfl, Nat.mul_one, Nat.add_zero] at hf12_0)); (have hx12_1 := hcc12 1 _ rfl); ((try simp only [show (k69).sz = 3 from rfl, Nat.mul_one, Nat.add_zero] at hx12_1)); (have hf12_1 := hfr12 1); ((try simp only [show (k69).sz = 3 from rfl, Nat.mul_one, Nat.add_zero] at hf12_1)); (have hx12_2 := hcc12 2 _ rfl); ((try simp only [show (k69).sz = 3 from rfl, Nat.mul_one, Nat.add_zero] at hx12_2)); (have hf12_2 := hfr12 2); ((try simp only [show (k69).sz = 3 from rfl, Nat.mul_one, Nat.add_zero] at hf12_2)); clear hcl12 hcc12 hfr12 hM12
        go_wp2_with (first | ((with_reducible refine gate_store (t := 69) (p := 21) rfl ?_); refine store_event (t := 69) (p := 21) (v := ?vo_w13) (w1 := (((w9.setCell ⟨go11, (x4_1 : Int).toNat * 3, none⟩ (.int .i64 t228)).setCell ⟨go11, (x4_1 : Int).toNat * 3 + 1, none⟩ (.int .i64 t229)).setCell ⟨go11, (x4_1 : Int).toNat * 3 + 2, none⟩ (.int .i64 t230))) ?hg ?ho ?hn ?hr ?_; (case ho => rfl); (case hg => rfl); (case hn => rfl); (case hr => first | (go_simp; done) | (go_simp; rfl)); intro w13 hw; have hg : w9.grownBy w13 (some go11) := (by rw [hw]; exact HP12.2); have hp_ : Kd.R k69 69 w13 w.heap.size (fun _ => True) (.slice (some ⟨go11, 0, none⟩) x3_1.length co11) y231 := (by rw [hw, Ny231.out]; exact HP12.1); clear HP12; have n0_ := A0_ (hp_); have n1_ := A0_ ((by rw [hw]; exact below_set (below_set (below_set (HB.out) GB11.out) GB11.out) GB11.out : Below w.heap.size w w13)); clear HO_3; clear HB; have HO_3 := n0_; have HB := n1_; clear n0_ n1_; clear hg hw hp_))
        (go_roundg k1)
        case measure => have := HK1.out; omega
        case rel => exact ⟨(y231), (wrap64 (x4_1 + 1)), (by first | rfl | (simp; done) | (simp [*]; done)), H', ⟨by have := HK1.out; omega⟩, ⟨by (with_reducible repeat (first | apply Ra_ | apply Rn_ | apply Rd_)); exact HO_3.out⟩, ⟨by repeat (first | (with_reducible first | exact HB.out | apply ba_ | apply bn_ | apply bd_) | exact HB.out)⟩⟩
       ·(rw [if_neg c10] at H); (exact absurd H (by simp))
      ·(rw [if_neg c7] at H); (exact absurd H (by simp))
     ·(rw [if_neg c6] at H); (have c6b0 : decide (x4_1 < (l0.length : Int)) = false := decide_eq_false c6); clear c6; (obtain rfl := Option.some.inj H); go_wp2; go_ret; (exact ⟨_, by first | rfl | (simp [errW_none, errW_some] <;> rfl) | (simp [*, errW_none, errW_some] <;> rfl), by (with_reducible repeat (first | apply Ra_ | apply Rn_ | apply Rd_)); exact HO_3.out, by repeat (first | (with_reducible first | exact HB.out | apply ba_ | apply bn_ | apply bd_) | exact HB.out)⟩)
  ·(rw [if_neg c3] at H); (exact absurd H (by simp))
 ·(rw [if_neg c2] at H); (exact absurd H (by simp))
end
section
attribute [local go_sem] max2_int min2_int max_two min_two max_three min_three max_four min_four
def laws_toCubeSS.l0 : Nat → List (List (S71)) → List (List (S69)) → Int → Option ((List (List (S69))))
  | 0, _, _, _ => none
  | k + 1, x0, x3, x4 => if x4 < (x0.length : Int) then (if 0 ≤ x4 then ((laws_toCubeS.f k (rd_L2 x0 x4)).bind fun t236 => (if x4 < (x3.length : Int) then (laws_toCubeSS.l0 k x0 (x3.set (x4 : Int).toNat t236) (wrap64 (x4 + 1))) else (none))) else (none)) else (some x3)
def laws_toCubeSS.f (k : Nat) (l0 : List (List (S71))) : Option ((List (List (S69)))) := if 0 ≤ (l0.length : Int) then (if ((l0.length : Int) : Int).toNat ≤ 11728124029610 then (laws_toCubeSS.l0 k l0 (List.replicate ((l0.length : Int) : Int).toNat []) 0) else (none)) else (none)
set_option maxHeartbeats 8000000 in
set_option maxRecDepth 100000 in
theorem laws_toCubeSS.calls (k : Nat) (A0 : Option Addr) (c0 : Nat) (l0 : List (List (S71))) (r : List (List (S69))) (w : World) (hr0 : Kd.C (Kd.slice 71 k71) w A0 l0.length l0) (hc0 : l0.length ≤ c0) (h : laws_toCubeSS.f k l0 = some r) :
    Calls Try.prog 47 #[.slice A0 l0.length c0] w fun e w' => ∃ v0_ : Value, e = .returned (v0_) ∧ Kd.S (Kd.slice 69 k69) 34 w' w.heap.size (fun _ => True) v0_ r ∧ Below w.heap.size w w' := by
 (have HR0 := A0_ hr0); (have HC0 := A0_ hc0); clear hr0 hc0; (have HB := A0_ (Below.refl w.heap.size w)); (have H : (if 0 ≤ (l0.length : Int) then (if ((l0.length : Int) : Int).toNat ≤ 11728124029610 then (laws_toCubeSS.l0 k l0 (List.replicate ((l0.length : Int) : Int).toNat []) 0) else (none)) else (none)) = some r := h); clear h; (by_cases c2 : 0 ≤ (l0.length : Int))
 ·(rw [if_pos c2] at H); (have c2b0 := eq_true c2); (have c2b1 : decide (0 ≤ (l0.length : Int)) = true := decide_eq_true c2); clear c2; (by_cases c3 : ((l0.length : Int) : Int).toNat ≤ 11728124029610)
  ·(rw [if_pos c3] at H); (have c3b0 := eq_true c3); (have c3b1 : decide (((l0.length : Int) : Int).toNat ≤ 11728124029610) = true := decide_eq_true c3); clear c3; (obtain ⟨y232, hy232⟩ : ∃ y_ : List (List (S69)), y_ = (List.replicate ((l0.length : Int) : Int).toNat []) := ⟨_, rfl⟩); (replace H : (laws_toCubeSS.l0 k l0 y232 0) = some r := by first | (rw [hy232]; with_reducible exact H) | (have H2_ := (Option.bind_some _ _).symm.trans H; rw [hy232]; with_reducible exact H2_) | (have H2_ := (Option.bind_some _ _).symm.trans H; with_reducible exact H2_) | with_reducible exact H | (rw [hy232]; exact H) | exact H); (have Ny232 := A0_ hy232); clear hy232; (have H' := A0_ H); clear H; (go_enter Try.func47, Try.ntmps47)
   go_wp2_with (first | ((with_reducible refine gate_dst (N := 7) rfl ?_); refine Kd.S_make (Kd.slice 69 k69) _ 34 rfl (N := 7) rfl 28 _ _ rfl (l0.length : Int) rfl rfl Try.underlying28 (.slice none 0 0) 24 info34 rfl (by decide) (by omega) [] (ok := fun _ => True) (okp := fun _ => True) ⟨_, rfl, Kd.R_nil _ _ _ _ _⟩ (fun _ hk => hk) trivial (of_decide_eq_true as_) (Nat.le_trans (Nat.mul_le_mul_right _ (of_decide_eq_true as_ : (l0.length : Int).toNat ≤ 11728124029610)) (by omega)) (Below.refl _ _) (Nat.le_refl _) ?_; intro v233 w4 ho5 hb hg_ hnew_; clear hg_ hnew_; (first | rw [← Ny232.out] at ho5 | (simp only [Int.reduceToNat] at ho5; rw [← Ny232.out] at ho5)); have n0_ := A0_ (Kd.S_lower ho5 (below_size bw_)); have n1_ := A0_ (below_step bw_ hb); clear HB; have HO234 := n0_; have HB := n1_; clear n0_ n1_; clear hb ho5))
   go_loopg [4] k (fun kq v4 w' => ∃ (x3_1 : List (List (S69))) (x4_1 : Int), v4 = .int .i64 x4_1 ∧ Aside0 (laws_toCubeSS.l0 kq l0 x3_1 x4_1 = some r) ∧ Aside0 (kq ≤ k) ∧ Aside0 (Kd.S (Kd.slice 69 k69) 34 w' w.heap.size (fun _ => True) v233 x3_1) ∧ Aside0 (Below w.heap.size w w'))
   case atStart => exact ⟨(y232), (0), (by first | rfl | (simp; done) | (simp [*]; done)), H', ⟨Nat.le_refl _⟩, ⟨by (with_reducible repeat (first | apply Kd.S_alloc | apply Kd.S_drewN | apply Kd.S_drew)); exact HO234.out⟩, ⟨by repeat (first | (with_reducible first | exact HB.out | apply ba_ | apply bn_ | apply bd_) | exact HB.out)⟩⟩
   case round =>
    clear H'; (try clear c2); (try clear c2b0); (try clear c2b1); (try clear p2); (try clear c3); (try clear c3b0); (try clear c3b1); (try clear c4); (obtain ⟨x3_1, x4_1, rfl, HA, HK1, HO_3, HB⟩ := hrel)
    cases gk with
    | zero => exact absurd HA.out (by simp [laws_toCubeSS.l0])
    | succ k1 =>
     (have H := HA.out); clear HA; (simp only [laws_toCubeSS.l0] at H); (by_cases c6 : x4_1 < (l0.length : Int))
     ·(rw [if_pos c6] at H); (have c6b0 : decide (x4_1 < (l0.length : Int)) = true := decide_eq_true c6); clear c6; (by_cases c7 : 0 ≤ x4_1)
      ·(rw [if_pos c7] at H); (have c7b0 : decide (0 ≤ x4_1) = true := decide_eq_true c7); clear c7; (replace H := Option.bind_eq_some_iff.mp H); (obtain ⟨t236, A80, H⟩ := H); (try dsimp only at H); (have A8 := A0_ A80); clear A80; (have H0_ := A0_ H); clear H; (have p235 : 0 ≤ (x4_1 : Int) := of_decide_eq_true as_); (have q235 : x4_1 < (l0.length : Int) := of_decide_eq_true as_); (obtain ⟨ad235, A235_0, c235_0, e235, hx235_0, hl235_0, hi235_0⟩ := at_L2 HR0.out x4_1 p235 q235); (cases e235); (replace hx235_0 := (HB.out.cell (World.block_lt_of_cell? w _ hx235_0)).trans hx235_0); (have HR235_0 := A0_ hi235_0); (have HC235_0 := A0_ hl235_0); clear hi235_0 hl235_0; (replace p235 := eq_true p235); (replace q235 := eq_true q235); (go_wp2_with (first | ((with_reducible refine gate_callee (f := 14) rfl ?_); refine goesL_ (some 20) rfl rfl Try.func14 (by kernel_rfl) rfl #[.slice A235_0 (rd_L2 l0 x4_1).length c235_0] rfl (by (try simp only [List.map_toArray, List.map_cons, List.map_nil]); first | done | rfl | (simp only [List.length_drop, List.length_take]; rfl)) ?_; (with_reducible refine (laws_toCubeS.calls k1 _ _ (rd_L2 l0 x4_1) t236 _ ?side1 ?side2 A8.out).mono ?_); (case side1 => repeat (first | exact (Kd.C_below HR235_0.out HB.out) | (with_reducible refine Kd.C_alloc ?_ _) | (with_reducible refine Kd.C_drewN ?_ _) | (with_reducible refine Kd.C_drew ?_))); (case side2 => exact HC235_0.out); rintro e w9 ⟨v237, rfl, ho0, hb⟩; refine ⟨_, rfl, ?_⟩; have n0_ := A0_ (Kd.S_elder' (by (with_reducible repeat (first | apply Kd.S_alloc | apply Kd.S_drewN | apply Kd.S_drew)); exact HO_3.out) (Kd.R_base ho0) hb); have n1_ := A0_ (Kd.R_lower ho0 (below_size bw_)); have n2_ := A0_ (below_step bw_ hb); clear HO_3; clear HB; have HO_3 := n0_; have HO238 := n1_; have HB := n2_; clear n0_ n1_ n2_; (try clear hb); (try clear hb2); (try clear hk); (try clear hi); (try clear ho0); refine Stop0.out ?_))); (refine Stop0.mk ?_); (have H := H0_.out); clear H0_; (by_cases c10 : x4_1 < (x3_1.length : Int))
       ·(rw [if_pos c10] at H); (have c10b0 : decide (x4_1 < (x3_1.length : Int)) = true := decide_eq_true c10); clear c10; (obtain ⟨y239, hy239⟩ : ∃ y_ : List (List (S69)), y_ = (x3_1.set (x4_1 : Int).toNat t236) := ⟨_, rfl⟩); (replace H : (laws_toCubeSS.l0 k1 l0 y239 (wrap64 (x4_1 + 1))) = some r := by first | (rw [hy239]; with_reducible exact H) | (have H2_ := (Option.bind_some _ _).symm.trans H; rw [hy239]; with_reducible exact H2_) | (have H2_ := (Option.bind_some _ _).symm.trans H; with_reducible exact H2_) | with_reducible exact H | (rw [hy239]; exact H) | exact H); (have Ny239 := A0_ hy239); clear hy239; (have H' := A0_ H); clear H; (have p11 : 0 ≤ (x4_1 : Int) := of_decide_eq_true as_); (have q11 : (x4_1 : Int) < ((x3_1.length : Int) : Int) := of_decide_eq_true as_); (obtain ⟨go11, co11, eo11, gb11, gl11, cl11, HG11⟩ := Kd.S_form HO_3.out (by omega)); ((first | cases eo11 | (injection eo11 with ea_ en_ ec_; (first | subst ea_ | (injection ea_ with ea_; subst ea_)); subst ec_; clear en_))); (have GB11 := A0_ gb11); (have GG11 := A0_ HG11); clear gb11 gl11 HG11; (obtain ⟨_, ce11, hcl11, hM11, hcc11, hfr11, _, _⟩ := Kd.S_elem HO_3.out [] (x4_1 : Int) p11 q11); (obtain ⟨ve11_0, rfl, ge11_0⟩ := hM11); (have hx11_0 := hcc11 0 _ rfl); (have hf11_0 := hfr11 0); ((try simp only [show ((Kd.slice 69 k69)).sz = 1 from rfl, Nat.mul_one, Nat.add_zero] at hx11_0)); ((try simp only [show ((Kd.slice 69 k69)).sz = 1 from rfl, Nat.mul_one, Nat.add_zero] at hf11_0)); clear hcl11 hcc11 hfr11; (replace p11 := eq_true p11); (replace q11 := eq_true q11)
        replace HO_3 := A0_ (Kd.S_mono (ok' := (fun k_ => some k_ ≠ (v237 : Value).ownBlock)) HO_3.out (fun k_ hk => hk.2))
        have HX12 := A0_ (show Kd.S (Kd.slice 69 k69) 34 w9 w.heap.size (fun k_ => ((fun _ => True)) k_ ∧ ¬ ((fun k_ => some k_ = (v237 : Value).ownBlock)) k_) (.slice (some ⟨go11, 0, none⟩) x3_1.length co11) x3_1 from (by (with_reducible repeat (first | apply Kd.S_alloc | apply Kd.S_drewN | apply Kd.S_drew)); exact Kd.S_mono HO_3.out (fun k_ hk => ⟨trivial, fun e_ => hk e_⟩)))
        (obtain ⟨oki12, ce12, hcl12, hM12, hcc12, hfr12, hoki12, hH12⟩ := Kd.S_elem HX12.out [] (x4_1 : Int) (of_decide_eq_true as_) (by have h_ : (x4_1 : Int) < ((x3_1.length : Int) : Int) := of_decide_eq_true as_; first | exact h_ | (have e_ := (Kd.S_reads' HO_3.out).1; omega) | simpa using h_)); (obtain ⟨ve12_0, rfl, ge12_0⟩ := hM12)
        have HP12 := Kd.S_seg hH12 (of_decide_eq_true as_) (by have h_ : (x4_1 : Int) < ((x3_1.length : Int) : Int) := of_decide_eq_true as_; first | exact h_ | (have e_ := (Kd.S_reads' HO_3.out).1; omega) | simpa using h_) (seg := [v237]) (j := 0) (show 1 ≤ 1 from by decide) (x' := t236) (Kd.M_row (Kd.R_mono (Kd.R_tight rfl (Kd.R_mono (ok' := fun k_ => ((fun _ => True)) k_ ∧ k_ ≠ go11) (Kd.R_apart' (HO238.out) (Kd.S_typed HO_3.out) (by decide)) (fun k_ hk => ⟨trivial, fun e_ => (hk.2) (by rw [e_]; rfl)⟩))) (fun _ h_ => Or.inr (h_)))) (fun _ hk => hk) (fun k_ hk_ => ((Kd.R_mono (ok' := fun k_ => ((fun _ => True)) k_ ∧ k_ ≠ go11) (Kd.R_apart' (HO238.out) (Kd.S_typed HO_3.out) (by decide)) (fun k_ hk => ⟨trivial, fun e_ => (hk.2) (by rw [e_]; rfl)⟩))).1 k_ hk_.symm)
        (have hx12_0 := hcc12 0 _ rfl); ((try simp only [show ((Kd.slice 69 k69)).sz = 1 from rfl, Nat.mul_one, Nat.add_zero] at hx12_0)); (have hf12_0 := hfr12 0); ((try simp only [show ((Kd.slice 69 k69)).sz = 1 from rfl, Nat.mul_one, Nat.add_zero] at hf12_0)); clear hcl12 hcc12 hfr12 hoki12 hH12; ((try simp only [show ((Kd.slice 69 k69)).sz = 1 from rfl, Nat.mul_one, Nat.add_zero] at HP12))
        go_wp2_with (first | ((with_reducible refine gate_store (t := 34) (p := 21) rfl ?_); refine store_event (t := 34) (p := 21) (v := ?vo_w13) (w1 := (w9.setCell ⟨go11, (x4_1 : Int).toNat, none⟩ (v237))) ?hg ?ho ?hn ?hr ?_; (case ho => rfl); (case hg => rfl); (case hn => rfl); (case hr => obtain ⟨A_, c_, e_⟩ := Kd.R_slice HO238.out; rw [e_]; first | (go_simp; done) | (go_simp; rfl)); intro w13 hw; have hg : w9.grownBy w13 (some go11) := (by rw [hw]; exact HP12.2); have hp_ : Kd.S (Kd.slice 69 k69) 34 w13 w.heap.size (fun _ => True) (.slice (some ⟨go11, 0, none⟩) x3_1.length co11) y239 := (by rw [hw, Ny239.out]; exact HP12.1); clear HP12; have n0_ := A0_ (hp_); have n1_ := A0_ ((by rw [hw]; exact below_set (HB.out) GB11.out : Below w.heap.size w w13)); clear HO_3; clear HB; clear HO238; have HO_3 := n0_; have HB := n1_; clear n0_ n1_; clear hg hw hp_))
        (go_roundg k1)
        case measure => have := HK1.out; omega
        case rel => exact ⟨(y239), (wrap64 (x4_1 + 1)), (by first | rfl | (simp; done) | (simp [*]; done)), H', ⟨by have := HK1.out; omega⟩, ⟨by (with_reducible repeat (first | apply Kd.S_alloc | apply Kd.S_drewN | apply Kd.S_drew)); exact HO_3.out⟩, ⟨by repeat (first | (with_reducible first | exact HB.out | apply ba_ | apply bn_ | apply bd_) | exact HB.out)⟩⟩
       ·(rw [if_neg c10] at H); (exact absurd H (by simp))
      ·(rw [if_neg c7] at H); (exact absurd H (by simp))
     ·(rw [if_neg c6] at H); (have c6b0 : decide (x4_1 < (l0.length : Int)) = false := decide_eq_false c6); clear c6; (obtain rfl := Option.some.inj H); go_wp2; go_ret; (exact ⟨_, by first | rfl | (simp [errW_none, errW_some] <;> rfl) | (simp [*, errW_none, errW_some] <;> rfl), by (with_reducible repeat (first | apply Kd.S_alloc | apply Kd.S_drewN | apply Kd.S_drew)); exact HO_3.out, by repeat (first | (with_reducible first | exact HB.out | apply ba_ | apply bn_ | apply bd_) | exact HB.out)⟩)
  ·(rw [if_neg c3] at H); (exact absurd H (by simp))
 ·(rw [if_neg c2] at H); (exact absurd H (by simp))
end
section
attribute [local go_sem] max2_int min2_int max_two min_two max_three min_three max_four min_four
def laws_toAssembly.f (k : Nat) (l0_0 : List (List (S71))) : Option ((List (List (S69)))) := (laws_toCubeSS.f k l0_0).bind fun t243 => (some t243)
set_option maxHeartbeats 8000000 in
set_option maxRecDepth 100000 in
theorem laws_toAssembly.calls (k : Nat) (A0_0 : Option Addr) (c0_0 : Nat) (l0_0 : List (List (S71))) (r : List (List (S69))) (w : World) (hr0_0 : Kd.C (Kd.slice 71 k71) w A0_0 l0_0.length l0_0) (hc0_0 : l0_0.length ≤ c0_0) (h : laws_toAssembly.f k l0_0 = some r) :
    Calls Try.prog 13 #[.agg #[.slice A0_0 l0_0.length c0_0]] w fun e w' => ∃ v0_ : Value, e = .returned (.agg #[v0_]) ∧ Kd.S (Kd.slice 69 k69) 34 w' w.heap.size (fun _ => True) v0_ r ∧ Below w.heap.size w w' := by
 (have hu24 := Try.underlying24); (have hu32 := Try.underlying32); (have HR0_0 := A0_ hr0_0); (have HC0_0 := A0_ hc0_0); clear hr0_0 hc0_0; (have HB := A0_ (Below.refl w.heap.size w))
 have H : ((laws_toCubeSS.f k l0_0).bind fun t243 => (some t243)) = some r := h
 clear h; (replace H := Option.bind_eq_some_iff.mp H); (obtain ⟨t243, A20, H⟩ := H); (try dsimp only at H); (have A2 := A0_ A20); clear A20; (have H0_ := A0_ H); clear H; (go_enter Try.func13, Try.ntmps13); (go_wp2_with (first | ((with_reducible refine gate_dst (N := 1) rfl ?_); refine be_ (N := 1) (cs := #[.slice A0_0 l0_0.length c0_0]) (t := 24) ?_; intro gb240 hg w3 hbox hb; have n0_ := A0_ (below_step bw_ hb); have n1_ := A0_ (hbox); have n2_ := A0_ ((by rw [hg]; exact (below_size bw_) : w.heap.size ≤ gb240)); have n3_ := A0_ ((by rw [hg]; exact (below_size bw_) : w.heap.size ≤ gb240)); clear HB; have HB := n0_; have BK240 := n1_; have GW240 := n2_; have GE240 := n3_; clear n0_ n1_ n2_ n3_; clear hb hbox hg) | ((with_reducible refine gate_dst (N := 2) rfl ?_); refine be_ (N := 2) (cs := #[.slice none 0 0]) (t := 32) ?_; intro gb241 hg w4 hbox hb; have n0_ := A0_ (blk_below (g := gb240) (o := .cells #[.slice A0_0 l0_0.length c0_0] 24 (0, 0)) (bk_ BK240) hb); have n1_ := A0_ (below_step bx_ hb); have n2_ := A0_ (hbox); have n3_ := A0_ ((by rw [hg]; exact (below_size bx_) : w.heap.size ≤ gb241)); have n4_ := A0_ ((by rw [hg]; exact (below_size bx_) : w.heap.size ≤ gb241)); have n5_ := A0_ ((by rw [hg]; exact Nat.ne_of_lt (blk_lt (g := gb240) (o := .cells #[.slice A0_0 l0_0.length c0_0] 24 (0, 0)) (bk_ BK240)) : gb240 ≠ gb241)); have n6_ := A0_ ((by rw [hg]; exact Nat.ne_of_gt (blk_lt (g := gb240) (o := .cells #[.slice A0_0 l0_0.length c0_0] 24 (0, 0)) (bk_ BK240)) : gb241 ≠ gb240)); clear BK240; clear HB; have BK240 := n0_; have HB := n1_; have BK241 := n2_; have GW241 := n3_; have GE241 := n4_; have NB240_241 := n5_; have NB241_240 := n6_; clear n0_ n1_ n2_ n3_ n4_ n5_ n6_; clear hb hbox hg) | ((with_reducible refine gate_dst (N := 3) rfl ?_); refine be_ (N := 3) (cs := #[.slice none 0 0]) (t := 32) ?_; intro gb242 hg w5 hbox hb; have n0_ := A0_ (blk_below (g := gb240) (o := .cells #[.slice A0_0 l0_0.length c0_0] 24 (0, 0)) (bk_ BK240) hb); have n1_ := A0_ (blk_below (g := gb241) (o := .cells #[.slice none 0 0] 32 (0, 0)) (bk_ BK241) hb); have n2_ := A0_ (below_step bx_ hb); have n3_ := A0_ (hbox); have n4_ := A0_ ((by rw [hg]; exact (below_size bx_) : w.heap.size ≤ gb242)); have n5_ := A0_ ((by rw [hg]; exact (below_size bx_) : w.heap.size ≤ gb242)); have n6_ := A0_ ((by rw [hg]; exact Nat.ne_of_lt (blk_lt (g := gb240) (o := .cells #[.slice A0_0 l0_0.length c0_0] 24 (0, 0)) (bk_ BK240)) : gb240 ≠ gb242)); have n7_ := A0_ ((by rw [hg]; exact Nat.ne_of_gt (blk_lt (g := gb240) (o := .cells #[.slice A0_0 l0_0.length c0_0] 24 (0, 0)) (bk_ BK240)) : gb242 ≠ gb240)); have n8_ := A0_ ((by rw [hg]; exact Nat.ne_of_lt (blk_lt (g := gb241) (o := .cells #[.slice none 0 0] 32 (0, 0)) (bk_ BK241)) : gb241 ≠ gb242)); have n9_ := A0_ ((by rw [hg]; exact Nat.ne_of_gt (blk_lt (g := gb241) (o := .cells #[.slice none 0 0] 32 (0, 0)) (bk_ BK241)) : gb242 ≠ gb241)); clear BK240; clear BK241; clear HB; have BK240 := n0_; have BK241 := n1_; have HB := n2_; have BK242 := n3_; have GW242 := n4_; have GE242 := n5_; have NB240_242 := n6_; have NB242_240 := n7_; have NB241_242 := n8_; have NB242_241 := n9_; clear n0_ n1_ n2_ n3_ n4_ n5_ n6_ n7_ n8_ n9_; clear hb hbox hg; have hnb6 := NB240_241.out; have hnc6 := NB241_240.out; have hnb7 := NB240_242.out; have hnc7 := NB242_240.out; have hcz8_0 : w5.cell? ⟨gb240, 0, none⟩ = some (.slice A0_0 l0_0.length c0_0) := (blk_cell BK240.out 0).trans rfl; have hfz8_0 := blk_frozen BK240.out 0) | ((with_reducible refine gate_callee (f := 47) rfl ?_); refine goesL_ (some 6) rfl rfl Try.func47 (by kernel_rfl) rfl #[.slice A0_0 l0_0.length c0_0] rfl (by (try simp only [List.map_toArray, List.map_cons, List.map_nil]); first | done | rfl | (simp only [List.length_drop, List.length_take]; rfl)) ?_; (with_reducible refine (laws_toCubeSS.calls k _ _ l0_0 t243 _ ?side1 ?side2 A2.out).mono ?_); (case side1 => repeat (first | exact (Kd.C_below HR0_0.out HB.out) | (with_reducible refine Kd.C_alloc ?_ _) | (with_reducible refine Kd.C_drewN ?_ _) | (with_reducible refine Kd.C_drew ?_))); (case side2 => exact HC0_0.out); rintro e w9 ⟨v244, rfl, ho0, hb⟩; refine ⟨_, rfl, ?_⟩; have n0_ := A0_ (Kd.S_lower ho0 (below_size bx_)); have n1_ := A0_ (blk_below (g := gb240) (o := .cells #[.slice A0_0 l0_0.length c0_0] 24 (0, 0)) (bk_ BK240) hb); have n2_ := A0_ (blk_below (g := gb241) (o := .cells #[.slice none 0 0] 32 (0, 0)) (bk_ BK241) hb); have n3_ := A0_ (blk_below (g := gb242) (o := .cells #[.slice none 0 0] 32 (0, 0)) (bk_ BK242) hb); have n4_ := A0_ (below_step bx_ hb); clear BK240; clear BK241; clear BK242; clear HB; have HO245 := n0_; have BK240 := n1_; have BK241 := n2_; have BK242 := n3_; have HB := n4_; clear n0_ n1_ n2_ n3_ n4_; (try clear hb); (try clear hb2); (try clear hk); (try clear hi); (try clear ho0); refine Stop0.out ?_))); (refine Stop0.mk ?_); (have H := H0_.out); clear H0_; (obtain rfl := Option.some.inj H); (obtain ⟨Ao10, co10, eo10⟩ := Kd.S_slice HO245.out); subst eo10; (have hnb11 := NB242_240.out); (have hnc11 := NB240_242.out); (have hnb12 := NB242_241.out); (have hnc12 := NB241_242.out); (have hcz13_0 : w9.cell? ⟨gb242, 0, none⟩ = some (.slice none 0 0) := (blk_cell BK242.out 0).trans rfl); (have hfz13_0 := blk_frozen BK242.out 0); (have hnb14 := NB241_240.out); (have hnc14 := NB240_241.out); (have hcz15_0 : w9.cell? ⟨gb241, 0, none⟩ = some (.slice none 0 0) := (blk_cell BK241.out 0).trans rfl); (have hfz15_0 := blk_frozen BK241.out 0); go_wp2; (refine bodyPost_ret (results_cell_row rfl _ _ gb241 32 #[.slice Ao10 t243.length co10] (0, 0) _ rfl (by (with_reducible repeat (first | apply gn_ | apply gd_ | apply ga_)); refine blk_put (cs := #[.slice none 0 0]) ?_ 0 _ rfl; (with_reducible repeat (first | apply gn_ | apply gd_ | apply ga_)); refine blk_far ?_ NB241_242.out _; (with_reducible repeat (first | apply gn_ | apply gd_ | apply ga_)); exact BK241.out) Try.underlying32 rfl (by kernel_rfl)) rfl ?_)
 exact ⟨_, by first | rfl | (simp [errW_none, errW_some] <;> rfl) | (simp [*, errW_none, errW_some] <;> rfl), by (with_reducible repeat (first | apply Kd.S_alloc | apply Kd.S_drewN | apply Kd.S_drew)); exact Kd.S_mono (Kd.S_far (p := ⟨gb241, 0, none⟩) (Kd.S_far (p := ⟨gb242, 0, none⟩) (Kd.S_types (Kd.S_types HO245.out BK242.out (by decide)) BK241.out (by decide)) (fun _ hk => hk.1.2) (.slice Ao10 t243.length co10)) (fun _ hk => hk.2) (.slice Ao10 t243.length co10)) (fun _ hk => trivial), by repeat (first | (with_reducible first | exact HB.out | apply ba_ | apply bn_ | apply bd_ | refine below_set ?_ GE240.out | refine below_set ?_ GE241.out | refine below_set ?_ GE242.out) | exact HB.out)⟩
end
section
attribute [local go_sem] max2_int min2_int max_two min_two max_three min_three max_four min_four
def laws_eqCube.f (a0_0 : Int) (a0_1 : Int) (a0_2 : Int) (a1_0 : Int) (a1_1 : Int) (a1_2 : Int) : Option (Bool) := if a0_0 = a1_0 then (if a0_1 = a1_1 then (if a0_2 = a1_2 then (some true) else (some false)) else (some false)) else (some false)
set_option maxHeartbeats 8000000 in
set_option maxRecDepth 100000 in
theorem laws_eqCube.calls (a0_0 : Int) (a0_1 : Int) (a0_2 : Int) (a1_0 : Int) (a1_1 : Int) (a1_2 : Int) (r : Bool) (w : World) (h : laws_eqCube.f a0_0 a0_1 a0_2 a1_0 a1_1 a1_2 = some r) :
    Calls Try.prog 52 #[.agg #[.int .i64 a0_0, .int .i64 a0_1, .int .i64 a0_2], .agg #[.int .i64 a1_0, .int .i64 a1_1, .int .i64 a1_2]] w fun e w' => e = .returned (.bool r) ∧ Below w.heap.size w w' := by
 (have hu69 := Try.underlying69); (have HB := A0_ (Below.refl w.heap.size w)); (have H : (if a0_0 = a1_0 then (if a0_1 = a1_1 then (if a0_2 = a1_2 then (some true) else (some false)) else (some false)) else (some false)) = some r := h); clear h; (by_cases c3 : a0_0 = a1_0)
 ·(rw [if_pos c3] at H); (have c3b0 : (a0_0 == a1_0) = true := beq_iff_eq.mpr c3); (have c3b1 : (a0_0 != a1_0) = false := bne_eq_false_iff_eq.mpr c3); clear c3; (by_cases c4 : a0_1 = a1_1)
  ·(rw [if_pos c4] at H); (have c4b0 : (a0_1 == a1_1) = true := beq_iff_eq.mpr c4); (have c4b1 : (a0_1 != a1_1) = false := bne_eq_false_iff_eq.mpr c4); clear c4; (by_cases c5 : a0_2 = a1_2)
   ·(rw [if_pos c5] at H); (have c5b0 : (a0_2 == a1_2) = true := beq_iff_eq.mpr c5); (have c5b1 : (a0_2 != a1_2) = false := bne_eq_false_iff_eq.mpr c5); clear c5; (obtain rfl := Option.some.inj H); (go_enter Try.func52, Try.ntmps52); (go_wp2_with (first | ((with_reducible refine gate_dst (N := 2) rfl ?_); refine be_ (N := 2) (cs := #[.int .i64 a0_0, .int .i64 a0_1, .int .i64 a0_2]) (t := 69) ?_; intro gb321 hg w6 hbox hb; have n0_ := A0_ (below_step bw_ hb); have n1_ := A0_ (hbox); have n2_ := A0_ ((by rw [hg]; exact (below_size bw_) : w.heap.size ≤ gb321)); have n3_ := A0_ ((by rw [hg]; exact (below_size bw_) : w.heap.size ≤ gb321)); clear HB; have HB := n0_; have BK321 := n1_; have GW321 := n2_; have GE321 := n3_; clear n0_ n1_ n2_ n3_; clear hb hbox hg) | ((with_reducible refine gate_dst (N := 3) rfl ?_); refine be_ (N := 3) (cs := #[.int .i64 a1_0, .int .i64 a1_1, .int .i64 a1_2]) (t := 69) ?_; intro gb322 hg w7 hbox hb; have n0_ := A0_ (blk_below (g := gb321) (o := .cells #[.int .i64 a0_0, .int .i64 a0_1, .int .i64 a0_2] 69 (0, 0)) (bk_ BK321) hb); have n1_ := A0_ (below_step bx_ hb); have n2_ := A0_ (hbox); have n3_ := A0_ ((by rw [hg]; exact (below_size bx_) : w.heap.size ≤ gb322)); have n4_ := A0_ ((by rw [hg]; exact (below_size bx_) : w.heap.size ≤ gb322)); have n5_ := A0_ ((by rw [hg]; exact Nat.ne_of_lt (blk_lt (g := gb321) (o := .cells #[.int .i64 a0_0, .int .i64 a0_1, .int .i64 a0_2] 69 (0, 0)) (bk_ BK321)) : gb321 ≠ gb322)); have n6_ := A0_ ((by rw [hg]; exact Nat.ne_of_gt (blk_lt (g := gb321) (o := .cells #[.int .i64 a0_0, .int .i64 a0_1, .int .i64 a0_2] 69 (0, 0)) (bk_ BK321)) : gb322 ≠ gb321)); clear BK321; clear HB; have BK321 := n0_; have HB := n1_; have BK322 := n2_; have GW322 := n3_; have GE322 := n4_; have NB321_322 := n5_; have NB322_321 := n6_; clear n0_ n1_ n2_ n3_ n4_ n5_ n6_; clear hb hbox hg; have hnb8 := NB321_322.out; have hnc8 := NB322_321.out; have hcz9_0 : w7.cell? ⟨gb321, 0, none⟩ = some (.int .i64 a0_0) := (blk_cell BK321.out 0).trans rfl; have hcz9_1 : w7.cell? ⟨gb321, 1, none⟩ = some (.int .i64 a0_1) := (blk_cell BK321.out 1).trans rfl; have hcz9_2 : w7.cell? ⟨gb321, 2, none⟩ = some (.int .i64 a0_2) := (blk_cell BK321.out 2).trans rfl; have hfz9_0 := blk_frozen BK321.out 0; have hfz9_1 := blk_frozen BK321.out 1; have hfz9_2 := blk_frozen BK321.out 2; have hcz10_0 : w7.cell? ⟨gb322, 0, none⟩ = some (.int .i64 a1_0) := (blk_cell BK322.out 0).trans rfl; have hcz10_1 : w7.cell? ⟨gb322, 1, none⟩ = some (.int .i64 a1_1) := (blk_cell BK322.out 1).trans rfl; have hcz10_2 : w7.cell? ⟨gb322, 2, none⟩ = some (.int .i64 a1_2) := (blk_cell BK322.out 2).trans rfl; have hfz10_0 := blk_frozen BK322.out 0; have hfz10_1 := blk_frozen BK322.out 1; have hfz10_2 := blk_frozen BK322.out 2))); go_ret; (exact ⟨er_, bx_⟩)
   ·(rw [if_neg c5] at H); (have c5b0 : (a0_2 == a1_2) = false := beq_eq_false_iff_ne.mpr c5); (have c5b1 : (a0_2 != a1_2) = true := bne_iff_ne.mpr c5); (obtain rfl := Option.some.inj H); (go_enter Try.func52, Try.ntmps52); (go_wp2_with (first | ((with_reducible refine gate_dst (N := 2) rfl ?_); refine be_ (N := 2) (cs := #[.int .i64 a0_0, .int .i64 a0_1, .int .i64 a0_2]) (t := 69) ?_; intro gb321 hg w11 hbox hb; have n0_ := A0_ (below_step bw_ hb); have n1_ := A0_ (hbox); have n2_ := A0_ ((by rw [hg]; exact (below_size bw_) : w.heap.size ≤ gb321)); have n3_ := A0_ ((by rw [hg]; exact (below_size bw_) : w.heap.size ≤ gb321)); clear HB; have HB := n0_; have BK321 := n1_; have GW321 := n2_; have GE321 := n3_; clear n0_ n1_ n2_ n3_; clear hb hbox hg) | ((with_reducible refine gate_dst (N := 3) rfl ?_); refine be_ (N := 3) (cs := #[.int .i64 a1_0, .int .i64 a1_1, .int .i64 a1_2]) (t := 69) ?_; intro gb322 hg w12 hbox hb; have n0_ := A0_ (blk_below (g := gb321) (o := .cells #[.int .i64 a0_0, .int .i64 a0_1, .int .i64 a0_2] 69 (0, 0)) (bk_ BK321) hb); have n1_ := A0_ (below_step bx_ hb); have n2_ := A0_ (hbox); have n3_ := A0_ ((by rw [hg]; exact (below_size bx_) : w.heap.size ≤ gb322)); have n4_ := A0_ ((by rw [hg]; exact (below_size bx_) : w.heap.size ≤ gb322)); have n5_ := A0_ ((by rw [hg]; exact Nat.ne_of_lt (blk_lt (g := gb321) (o := .cells #[.int .i64 a0_0, .int .i64 a0_1, .int .i64 a0_2] 69 (0, 0)) (bk_ BK321)) : gb321 ≠ gb322)); have n6_ := A0_ ((by rw [hg]; exact Nat.ne_of_gt (blk_lt (g := gb321) (o := .cells #[.int .i64 a0_0, .int .i64 a0_1, .int .i64 a0_2] 69 (0, 0)) (bk_ BK321)) : gb322 ≠ gb321)); clear BK321; clear HB; have BK321 := n0_; have HB := n1_; have BK322 := n2_; have GW322 := n3_; have GE322 := n4_; have NB321_322 := n5_; have NB322_321 := n6_; clear n0_ n1_ n2_ n3_ n4_ n5_ n6_; clear hb hbox hg; have hnb13 := NB321_322.out; have hnc13 := NB322_321.out; have hcz14_0 : w12.cell? ⟨gb321, 0, none⟩ = some (.int .i64 a0_0) := (blk_cell BK321.out 0).trans rfl; have hcz14_1 : w12.cell? ⟨gb321, 1, none⟩ = some (.int .i64 a0_1) := (blk_cell BK321.out 1).trans rfl; have hcz14_2 : w12.cell? ⟨gb321, 2, none⟩ = some (.int .i64 a0_2) := (blk_cell BK321.out 2).trans rfl; have hfz14_0 := blk_frozen BK321.out 0; have hfz14_1 := blk_frozen BK321.out 1; have hfz14_2 := blk_frozen BK321.out 2; have hcz15_0 : w12.cell? ⟨gb322, 0, none⟩ = some (.int .i64 a1_0) := (blk_cell BK322.out 0).trans rfl; have hcz15_1 : w12.cell? ⟨gb322, 1, none⟩ = some (.int .i64 a1_1) := (blk_cell BK322.out 1).trans rfl; have hcz15_2 : w12.cell? ⟨gb322, 2, none⟩ = some (.int .i64 a1_2) := (blk_cell BK322.out 2).trans rfl; have hfz15_0 := blk_frozen BK322.out 0; have hfz15_1 := blk_frozen BK322.out 1; have hfz15_2 := blk_frozen BK322.out 2))); go_ret; (exact ⟨er_, bx_⟩)
  ·(rw [if_neg c4] at H); (have c4b0 : (a0_1 == a1_1) = false := beq_eq_false_iff_ne.mpr c4); (have c4b1 : (a0_1 != a1_1) = true := bne_iff_ne.mpr c4); (obtain rfl := Option.some.inj H); (go_enter Try.func52, Try.ntmps52); (go_wp2_with (first | ((with_reducible refine gate_dst (N := 2) rfl ?_); refine be_ (N := 2) (cs := #[.int .i64 a0_0, .int .i64 a0_1, .int .i64 a0_2]) (t := 69) ?_; intro gb321 hg w16 hbox hb; have n0_ := A0_ (below_step bw_ hb); have n1_ := A0_ (hbox); have n2_ := A0_ ((by rw [hg]; exact (below_size bw_) : w.heap.size ≤ gb321)); have n3_ := A0_ ((by rw [hg]; exact (below_size bw_) : w.heap.size ≤ gb321)); clear HB; have HB := n0_; have BK321 := n1_; have GW321 := n2_; have GE321 := n3_; clear n0_ n1_ n2_ n3_; clear hb hbox hg) | ((with_reducible refine gate_dst (N := 3) rfl ?_); refine be_ (N := 3) (cs := #[.int .i64 a1_0, .int .i64 a1_1, .int .i64 a1_2]) (t := 69) ?_; intro gb322 hg w17 hbox hb; have n0_ := A0_ (blk_below (g := gb321) (o := .cells #[.int .i64 a0_0, .int .i64 a0_1, .int .i64 a0_2] 69 (0, 0)) (bk_ BK321) hb); have n1_ := A0_ (below_step bx_ hb); have n2_ := A0_ (hbox); have n3_ := A0_ ((by rw [hg]; exact (below_size bx_) : w.heap.size ≤ gb322)); have n4_ := A0_ ((by rw [hg]; exact (below_size bx_) : w.heap.size ≤ gb322)); have n5_ := A0_ ((by rw [hg]; exact Nat.ne_of_lt (blk_lt (g := gb321) (o := .cells #[.int .i64 a0_0, .int .i64 a0_1, .int .i64 a0_2] 69 (0, 0)) (bk_ BK321)) : gb321 ≠ gb322)); have n6_ := A0_ ((by rw [hg]; exact Nat.ne_of_gt (blk_lt (g := gb321) (o := .cells #[.int .i64 a0_0, .int .i64 a0_1, .int .i64 a0_2] 69 (0, 0)) (bk_ BK321)) : gb322 ≠ gb321)); clear BK321; clear HB; have BK321 := n0_; have HB := n1_; have BK322 := n2_; have GW322 := n3_; have GE322 := n4_; have NB321_322 := n5_; have NB322_321 := n6_; clear n0_ n1_ n2_ n3_ n4_ n5_ n6_; clear hb hbox hg; have hnb18 := NB321_322.out; have hnc18 := NB322_321.out; have hcz19_0 : w17.cell? ⟨gb321, 0, none⟩ = some (.int .i64 a0_0) := (blk_cell BK321.out 0).trans rfl; have hcz19_1 : w17.cell? ⟨gb321, 1, none⟩ = some (.int .i64 a0_1) := (blk_cell BK321.out 1).trans rfl; have hcz19_2 : w17.cell? ⟨gb321, 2, none⟩ = some (.int .i64 a0_2) := (blk_cell BK321.out 2).trans rfl; have hfz19_0 := blk_frozen BK321.out 0; have hfz19_1 := blk_frozen BK321.out 1; have hfz19_2 := blk_frozen BK321.out 2; have hcz20_0 : w17.cell? ⟨gb322, 0, none⟩ = some (.int .i64 a1_0) := (blk_cell BK322.out 0).trans rfl; have hcz20_1 : w17.cell? ⟨gb322, 1, none⟩ = some (.int .i64 a1_1) := (blk_cell BK322.out 1).trans rfl; have hcz20_2 : w17.cell? ⟨gb322, 2, none⟩ = some (.int .i64 a1_2) := (blk_cell BK322.out 2).trans rfl; have hfz20_0 := blk_frozen BK322.out 0; have hfz20_1 := blk_frozen BK322.out 1; have hfz20_2 := blk_frozen BK322.out 2))); go_ret; (exact ⟨er_, bx_⟩)
 ·(rw [if_neg c3] at H); (have c3b0 : (a0_0 == a1_0) = false := beq_eq_false_iff_ne.mpr c3); (have c3b1 : (a0_0 != a1_0) = true := bne_iff_ne.mpr c3); (obtain rfl := Option.some.inj H); (go_enter Try.func52, Try.ntmps52); (go_wp2_with (first | ((with_reducible refine gate_dst (N := 2) rfl ?_); refine be_ (N := 2) (cs := #[.int .i64 a0_0, .int .i64 a0_1, .int .i64 a0_2]) (t := 69) ?_; intro gb321 hg w21 hbox hb; have n0_ := A0_ (below_step bw_ hb); have n1_ := A0_ (hbox); have n2_ := A0_ ((by rw [hg]; exact (below_size bw_) : w.heap.size ≤ gb321)); have n3_ := A0_ ((by rw [hg]; exact (below_size bw_) : w.heap.size ≤ gb321)); clear HB; have HB := n0_; have BK321 := n1_; have GW321 := n2_; have GE321 := n3_; clear n0_ n1_ n2_ n3_; clear hb hbox hg) | ((with_reducible refine gate_dst (N := 3) rfl ?_); refine be_ (N := 3) (cs := #[.int .i64 a1_0, .int .i64 a1_1, .int .i64 a1_2]) (t := 69) ?_; intro gb322 hg w22 hbox hb; have n0_ := A0_ (blk_below (g := gb321) (o := .cells #[.int .i64 a0_0, .int .i64 a0_1, .int .i64 a0_2] 69 (0, 0)) (bk_ BK321) hb); have n1_ := A0_ (below_step bx_ hb); have n2_ := A0_ (hbox); have n3_ := A0_ ((by rw [hg]; exact (below_size bx_) : w.heap.size ≤ gb322)); have n4_ := A0_ ((by rw [hg]; exact (below_size bx_) : w.heap.size ≤ gb322)); have n5_ := A0_ ((by rw [hg]; exact Nat.ne_of_lt (blk_lt (g := gb321) (o := .cells #[.int .i64 a0_0, .int .i64 a0_1, .int .i64 a0_2] 69 (0, 0)) (bk_ BK321)) : gb321 ≠ gb322)); have n6_ := A0_ ((by rw [hg]; exact Nat.ne_of_gt (blk_lt (g := gb321) (o := .cells #[.int .i64 a0_0, .int .i64 a0_1, .int .i64 a0_2] 69 (0, 0)) (bk_ BK321)) : gb322 ≠ gb321)); clear BK321; clear HB; have BK321 := n0_; have HB := n1_; have BK322 := n2_; have GW322 := n3_; have GE322 := n4_; have NB321_322 := n5_; have NB322_321 := n6_; clear n0_ n1_ n2_ n3_ n4_ n5_ n6_; clear hb hbox hg; have hnb23 := NB321_322.out; have hnc23 := NB322_321.out; have hcz24_0 : w22.cell? ⟨gb321, 0, none⟩ = some (.int .i64 a0_0) := (blk_cell BK321.out 0).trans rfl; have hcz24_1 : w22.cell? ⟨gb321, 1, none⟩ = some (.int .i64 a0_1) := (blk_cell BK321.out 1).trans rfl; have hcz24_2 : w22.cell? ⟨gb321, 2, none⟩ = some (.int .i64 a0_2) := (blk_cell BK321.out 2).trans rfl; have hfz24_0 := blk_frozen BK321.out 0; have hfz24_1 := blk_frozen BK321.out 1; have hfz24_2 := blk_frozen BK321.out 2; have hcz25_0 : w22.cell? ⟨gb322, 0, none⟩ = some (.int .i64 a1_0) := (blk_cell BK322.out 0).trans rfl; have hcz25_1 : w22.cell? ⟨gb322, 1, none⟩ = some (.int .i64 a1_1) := (blk_cell BK322.out 1).trans rfl; have hcz25_2 : w22.cell? ⟨gb322, 2, none⟩ = some (.int .i64 a1_2) := (blk_cell BK322.out 2).trans rfl; have hfz25_0 := blk_frozen BK322.out 0; have hfz25_1 := blk_frozen BK322.out 1; have hfz25_2 := blk_frozen BK322.out 2))); go_ret; (exact ⟨er_, bx_⟩)
end
section
attribute [local go_sem] max2_int min2_int max_two min_two max_three min_three max_four min_four
def laws_eqCubeS.l0 : Nat → List (S69) → List (S69) → Int → Option (Bool)
  | 0, _, _, _ => none
  | k + 1, x0, x1, x5 => if x5 < (x0.length : Int) then (if 0 ≤ x5 then (if x5 < (x1.length : Int) then ((laws_eqCube.f ((rd_T69 x0 x5).f0) ((rd_T69 x0 x5).f1) ((rd_T69 x0 x5).f2) ((rd_T69 x1 x5).f0) ((rd_T69 x1 x5).f1) ((rd_T69 x1 x5).f2)).bind fun t325 => (if t325 = true then (laws_eqCubeS.l0 k x0 x1 (wrap64 (x5 + 1))) else (some false))) else (none)) else (none)) else (some true)
def laws_eqCubeS.f (k : Nat) (l0 : List (S69)) (l1 : List (S69)) : Option (Bool) := if (l0.length : Int) = (l1.length : Int) then (laws_eqCubeS.l0 k l0 l1 0) else (some false)
def laws_eqCubeS.T6 : Bool × List (List Nat × List Nat) := (true, [([], []), ([], []), ([0, 1], [0, 1]), ([2], [2]), ([], []), ([], []), ([4, 5], [4, 5]), ([6], [6]), ([3, 7], [3, 7]), ([8], [8])])
def laws_eqCubeS.B6 : List Nat := [0, 0, 3, 7, 0, 0, 48, 112, 255, 511]
theorem laws_eqCubeS.tab6 : rtab .any (opsOf Try.f18 6) = laws_eqCubeS.T6 := by kernel_rfl
theorem laws_eqCubeS.bits6 : waitsOk laws_eqCubeS.T6.2 laws_eqCubeS.B6 = true := by kernel_rfl
set_option maxHeartbeats 8000000 in
set_option maxRecDepth 100000 in
theorem laws_eqCubeS.calls (k : Nat) (A0 : Option Addr) (c0 : Nat) (l0 : List (S69)) (A1 : Option Addr) (c1 : Nat) (l1 : List (S69)) (r : Bool) (w : World) (hr0 : Kd.C k69 w A0 l0.length l0) (hc0 : l0.length ≤ c0) (hr1 : Kd.C k69 w A1 l1.length l1) (hc1 : l1.length ≤ c1) (h : laws_eqCubeS.f k l0 l1 = some r) :
    Calls Try.prog 18 #[.slice A0 l0.length c0, .slice A1 l1.length c1] w fun e w' => e = .returned (.bool r) ∧ Below w.heap.size w w' := by
 (have hu69 := Try.underlying69); (have HR0 := A0_ hr0); (have HC0 := A0_ hc0); clear hr0 hc0; (have HR1 := A0_ hr1); (have HC1 := A0_ hc1); clear hr1 hc1; (have HB := A0_ (Below.refl w.heap.size w)); (have H : (if (l0.length : Int) = (l1.length : Int) then (laws_eqCubeS.l0 k l0 l1 0) else (some false)) = some r := h); clear h; (by_cases c3 : (l0.length : Int) = (l1.length : Int))
 ·(rw [if_pos c3] at H); (have c3b0 : ((l0.length : Int) == (l1.length : Int)) = true := beq_iff_eq.mpr c3); (have c3b1 : ((l0.length : Int) != (l1.length : Int)) = false := bne_eq_false_iff_eq.mpr c3); (have c3b2 : (l0.length == l1.length) = true := by first | simpa using c3 | (simp at c3 ⊢; omega)); clear c3; (have H' := A0_ H); clear H; (go_enter Try.func18, Try.ntmps18); go_wp2
  go_loopg [5] k (fun kq v5 w' => ∃ (x5_1 : Int), v5 = .int .i64 x5_1 ∧ Aside0 (laws_eqCubeS.l0 kq l0 l1 x5_1 = some r) ∧ Aside0 (kq ≤ k) ∧ Aside0 (Below w.heap.size w w'))
  case atStart => exact ⟨(0), (by first | rfl | (simp; done) | (simp [*]; done)), H', ⟨Nat.le_refl _⟩, ⟨by repeat (first | (with_reducible first | exact HB.out | apply ba_ | apply bn_ | apply bd_) | exact HB.out)⟩⟩
  case round =>
   clear H'; (try clear c1); (try clear p2); (try clear c3); (try clear c3b0); (try clear c3b1); (try clear c3b2); (obtain ⟨x5_1, rfl, HA, HK1, HB⟩ := hrel)
   cases gk with
   | zero => exact absurd HA.out (by simp [laws_eqCubeS.l0])
   | succ k1 =>
    (have H := HA.out); clear HA; (simp only [laws_eqCubeS.l0] at H); (by_cases c4 : x5_1 < (l0.length : Int))
    ·(rw [if_pos c4] at H); (have c4b0 : decide (x5_1 < (l0.length : Int)) = true := decide_eq_true c4); clear c4; (by_cases c5 : 0 ≤ x5_1)
     ·(rw [if_pos c5] at H); (have c5b0 : decide (0 ≤ x5_1) = true := decide_eq_true c5); clear c5; (by_cases c6 : x5_1 < (l1.length : Int))
      ·(rw [if_pos c6] at H); (have c6b0 : decide (x5_1 < (l1.length : Int)) = true := decide_eq_true c6); clear c6; (replace H := Option.bind_eq_some_iff.mp H); (obtain ⟨t325, A70, H⟩ := H); (try dsimp only at H); (have A7 := A0_ A70); clear A70; (by_cases c8 : t325 = true)
       ·subst c8; (have H1 := H); (rw [if_pos rfl] at H1); clear H; (have H := H1); clear H1; (have H' := A0_ H); clear H; (try go_wp2); (replace HB := A0_ (below_drew1 HB.out)); (have p323 : 0 ≤ (x5_1 : Int) := of_decide_eq_true as_); (have q323 : x5_1 < (l0.length : Int) := of_decide_eq_true as_); (obtain ⟨ad323, e323, hx323_0, hx323_1, hx323_2⟩ := at_T69 HR0.out x5_1 p323 q323); (have hw323_2 := hx323_2); (have hw323_1 := hx323_1); (have hw323_0 := hx323_0); (cases e323); (replace hx323_0 := (HB.out.cell (World.block_lt_of_cell? w _ hx323_0)).trans hx323_0); (replace hx323_1 := (HB.out.cell (World.block_lt_of_cell? w _ hx323_1)).trans hx323_1); (replace hx323_2 := (HB.out.cell (World.block_lt_of_cell? w _ hx323_2)).trans hx323_2); (replace p323 := eq_true p323); (replace q323 := eq_true q323); (have p324 : 0 ≤ (x5_1 : Int) := of_decide_eq_true as_); (have q324 : x5_1 < (l1.length : Int) := of_decide_eq_true as_); (obtain ⟨ad324, e324, hx324_0, hx324_1, hx324_2⟩ := at_T69 HR1.out x5_1 p324 q324); (have hw324_2 := hx324_2); (have hw324_1 := hx324_1); (have hw324_0 := hx324_0); (cases e324); (replace hx324_0 := (HB.out.cell (World.block_lt_of_cell? w _ hx324_0)).trans hx324_0); (replace hx324_1 := (HB.out.cell (World.block_lt_of_cell? w _ hx324_1)).trans hx324_1); (replace hx324_2 := (HB.out.cell (World.block_lt_of_cell? w _ hx324_2)).trans hx324_2); (replace p324 := eq_true p324); (replace q324 := eq_true q324)
        refine start_ (n := 10) (S := fun w' => w'.cell? (ad323.add ((x5_1).toNat * 3)) = some (.int .i64 ((rd_T69 l0 x5_1).f0)) ∧ w'.cell? ⟨(ad323.add ((x5_1).toNat * 3)).block, (ad323.add ((x5_1).toNat * 3)).off + 1, none⟩ = some (.int .i64 ((rd_T69 l0 x5_1).f1)) ∧ w'.cell? ⟨(ad323.add ((x5_1).toNat * 3)).block, (ad323.add ((x5_1).toNat * 3)).off + 2, none⟩ = some (.int .i64 ((rd_T69 l0 x5_1).f2)) ∧ w'.cell? (ad324.add ((x5_1).toNat * 3)) = some (.int .i64 ((rd_T69 l1 x5_1).f0)) ∧ w'.cell? ⟨(ad324.add ((x5_1).toNat * 3)).block, (ad324.add ((x5_1).toNat * 3)).off + 1, none⟩ = some (.int .i64 ((rd_T69 l1 x5_1).f1)) ∧ w'.cell? ⟨(ad324.add ((x5_1).toNat * 3)).block, (ad324.add ((x5_1).toNat * 3)).off + 2, none⟩ = some (.int .i64 ((rd_T69 l1 x5_1).f2))) (ds := []) #[ff,ff,ff,ff,ff,ff,ff,ff,ff,ff] (by kernel_rfl) rfl rfl ⟨((HB.out.cell (World.block_lt_of_cell? w _ hw323_0)).trans hw323_0), ((HB.out.cell (World.block_lt_of_cell? w _ hw323_1)).trans hw323_1), ((HB.out.cell (World.block_lt_of_cell? w _ hw323_2)).trans hw323_2), ((HB.out.cell (World.block_lt_of_cell? w _ hw324_0)).trans hw324_0), ((HB.out.cell (World.block_lt_of_cell? w _ hw324_1)).trans hw324_1), ((HB.out.cell (World.block_lt_of_cell? w _ hw324_2)).trans hw324_2)⟩ (fun hHeld => ?_); refine with_tabW laws_eqCubeS.tab6 laws_eqCubeS.bits6 (fun HT_ HW_ => ?_)
        (generalize wr.drew = w9 at HB hx323_0 hx323_1 hx323_2 hx324_0 hx324_1 hx324_2 hHeld ⊢); (refine on_ 0 (some 17) ?_); (refine on_ 1 (some 18) ?_); (refine on_ 2 (some 19) ?_); (refine on_ 4 (some 21) ?_); (refine on_ 5 (some 22) ?_); (refine on_ 6 (some 23) ?_); (refine tk_ 3 (some 20) ?_); (refine tk_ 7 (some 24) ?_)
        refine o1_ 8 (some 25) (fun K hK => ?_)
        (refine gs_ Try.func52 #[.agg #[.int .i64 ((rd_T69 l0 x5_1).f0), .int .i64 ((rd_T69 l0 x5_1).f1), .int .i64 ((rd_T69 l0 x5_1).f2)], .agg #[.int .i64 ((rd_T69 l1 x5_1).f0), .int .i64 ((rd_T69 l1 x5_1).f1), .int .i64 ((rd_T69 l1 x5_1).f2)]] ?_); (with_reducible refine (laws_eqCube.calls ((rd_T69 l0 x5_1).f0) ((rd_T69 l0 x5_1).f1) ((rd_T69 l0 x5_1).f2) ((rd_T69 l1 x5_1).f0) ((rd_T69 l1 x5_1).f1) ((rd_T69 l1 x5_1).f2) true _ A7.out).mono ?_); (rintro e w10 ⟨rfl, hb⟩); (refine ⟨_, rfl, ?_⟩); (replace HB := A0_ (below_step bw_ hb)); ((try clear hb)); ((try clear hb2)); ((try clear hk)); ((try clear hi))
        refine hK.out _ _ ⟨((HB.out.cell (World.block_lt_of_cell? w _ hw323_0)).trans hw323_0), ((HB.out.cell (World.block_lt_of_cell? w _ hw323_1)).trans hw323_1), ((HB.out.cell (World.block_lt_of_cell? w _ hw323_2)).trans hw323_2), ((HB.out.cell (World.block_lt_of_cell? w _ hw324_0)).trans hw324_0), ((HB.out.cell (World.block_lt_of_cell? w _ hw324_1)).trans hw324_1), ((HB.out.cell (World.block_lt_of_cell? w _ hw324_2)).trans hw324_2)⟩ (fun hHeld => ?_)
        clear hK K; (refine nm_ (some 25) ?_); (refine on_ 9 (some 26) ?_); (refine dn_ ?_); (try go_wp2); (go_roundg k1)
        case measure => have := HK1.out; omega
        case rel => exact ⟨(wrap64 (x5_1 + 1)), (by first | rfl | (simp; done) | (simp [*]; done)), H', ⟨by have := HK1.out; omega⟩, ⟨by repeat (first | (with_reducible first | exact HB.out | apply ba_ | apply bn_ | apply bd_) | exact HB.out)⟩⟩
       ·(replace c8 := Bool.eq_false_iff.mpr c8); subst c8; (have H1 : (some false) = some r := by rw [if_neg (show ¬ (false = true) by decide)] at H; exact H); clear H; (have H := H1); clear H1; (obtain rfl := Option.some.inj H); (try go_wp2); (replace HB := A0_ (below_drew1 HB.out)); (have p323 : 0 ≤ (x5_1 : Int) := of_decide_eq_true as_); (have q323 : x5_1 < (l0.length : Int) := of_decide_eq_true as_); (obtain ⟨ad323, e323, hx323_0, hx323_1, hx323_2⟩ := at_T69 HR0.out x5_1 p323 q323); (have hw323_2 := hx323_2); (have hw323_1 := hx323_1); (have hw323_0 := hx323_0); (cases e323); (replace hx323_0 := (HB.out.cell (World.block_lt_of_cell? w _ hx323_0)).trans hx323_0); (replace hx323_1 := (HB.out.cell (World.block_lt_of_cell? w _ hx323_1)).trans hx323_1); (replace hx323_2 := (HB.out.cell (World.block_lt_of_cell? w _ hx323_2)).trans hx323_2); (replace p323 := eq_true p323); (replace q323 := eq_true q323); (have p324 : 0 ≤ (x5_1 : Int) := of_decide_eq_true as_); (have q324 : x5_1 < (l1.length : Int) := of_decide_eq_true as_); (obtain ⟨ad324, e324, hx324_0, hx324_1, hx324_2⟩ := at_T69 HR1.out x5_1 p324 q324); (have hw324_2 := hx324_2); (have hw324_1 := hx324_1); (have hw324_0 := hx324_0); (cases e324); (replace hx324_0 := (HB.out.cell (World.block_lt_of_cell? w _ hx324_0)).trans hx324_0); (replace hx324_1 := (HB.out.cell (World.block_lt_of_cell? w _ hx324_1)).trans hx324_1); (replace hx324_2 := (HB.out.cell (World.block_lt_of_cell? w _ hx324_2)).trans hx324_2); (replace p324 := eq_true p324); (replace q324 := eq_true q324)
        refine start_ (n := 10) (S := fun w' => w'.cell? (ad323.add ((x5_1).toNat * 3)) = some (.int .i64 ((rd_T69 l0 x5_1).f0)) ∧ w'.cell? ⟨(ad323.add ((x5_1).toNat * 3)).block, (ad323.add ((x5_1).toNat * 3)).off + 1, none⟩ = some (.int .i64 ((rd_T69 l0 x5_1).f1)) ∧ w'.cell? ⟨(ad323.add ((x5_1).toNat * 3)).block, (ad323.add ((x5_1).toNat * 3)).off + 2, none⟩ = some (.int .i64 ((rd_T69 l0 x5_1).f2)) ∧ w'.cell? (ad324.add ((x5_1).toNat * 3)) = some (.int .i64 ((rd_T69 l1 x5_1).f0)) ∧ w'.cell? ⟨(ad324.add ((x5_1).toNat * 3)).block, (ad324.add ((x5_1).toNat * 3)).off + 1, none⟩ = some (.int .i64 ((rd_T69 l1 x5_1).f1)) ∧ w'.cell? ⟨(ad324.add ((x5_1).toNat * 3)).block, (ad324.add ((x5_1).toNat * 3)).off + 2, none⟩ = some (.int .i64 ((rd_T69 l1 x5_1).f2))) (ds := []) #[ff,ff,ff,ff,ff,ff,ff,ff,ff,ff] (by kernel_rfl) rfl rfl ⟨((HB.out.cell (World.block_lt_of_cell? w _ hw323_0)).trans hw323_0), ((HB.out.cell (World.block_lt_of_cell? w _ hw323_1)).trans hw323_1), ((HB.out.cell (World.block_lt_of_cell? w _ hw323_2)).trans hw323_2), ((HB.out.cell (World.block_lt_of_cell? w _ hw324_0)).trans hw324_0), ((HB.out.cell (World.block_lt_of_cell? w _ hw324_1)).trans hw324_1), ((HB.out.cell (World.block_lt_of_cell? w _ hw324_2)).trans hw324_2)⟩ (fun hHeld => ?_); refine with_tabW laws_eqCubeS.tab6 laws_eqCubeS.bits6 (fun HT_ HW_ => ?_)
        (generalize wr.drew = w11 at HB hx323_0 hx323_1 hx323_2 hx324_0 hx324_1 hx324_2 hHeld ⊢); (refine on_ 0 (some 17) ?_); (refine on_ 1 (some 18) ?_); (refine on_ 2 (some 19) ?_); (refine on_ 4 (some 21) ?_); (refine on_ 5 (some 22) ?_); (refine on_ 6 (some 23) ?_); (refine tk_ 3 (some 20) ?_); (refine tk_ 7 (some 24) ?_)
        refine o1_ 8 (some 25) (fun K hK => ?_)
        (refine gs_ Try.func52 #[.agg #[.int .i64 ((rd_T69 l0 x5_1).f0), .int .i64 ((rd_T69 l0 x5_1).f1), .int .i64 ((rd_T69 l0 x5_1).f2)], .agg #[.int .i64 ((rd_T69 l1 x5_1).f0), .int .i64 ((rd_T69 l1 x5_1).f1), .int .i64 ((rd_T69 l1 x5_1).f2)]] ?_); (with_reducible refine (laws_eqCube.calls ((rd_T69 l0 x5_1).f0) ((rd_T69 l0 x5_1).f1) ((rd_T69 l0 x5_1).f2) ((rd_T69 l1 x5_1).f0) ((rd_T69 l1 x5_1).f1) ((rd_T69 l1 x5_1).f2) false _ A7.out).mono ?_); (rintro e w12 ⟨rfl, hb⟩); (refine ⟨_, rfl, ?_⟩); (replace HB := A0_ (below_step bw_ hb)); ((try clear hb)); ((try clear hb2)); ((try clear hk)); ((try clear hi))
        refine hK.out _ _ ⟨((HB.out.cell (World.block_lt_of_cell? w _ hw323_0)).trans hw323_0), ((HB.out.cell (World.block_lt_of_cell? w _ hw323_1)).trans hw323_1), ((HB.out.cell (World.block_lt_of_cell? w _ hw323_2)).trans hw323_2), ((HB.out.cell (World.block_lt_of_cell? w _ hw324_0)).trans hw324_0), ((HB.out.cell (World.block_lt_of_cell? w _ hw324_1)).trans hw324_1), ((HB.out.cell (World.block_lt_of_cell? w _ hw324_2)).trans hw324_2)⟩ (fun hHeld => ?_)
        clear hK K; (refine nm_ (some 25) ?_); (refine on_ 9 (some 26) ?_); (refine dn_ ?_); (try go_wp2); go_ret; (exact ⟨er_, bx_⟩)
      ·(rw [if_neg c6] at H); (exact absurd H (by simp))
     ·(rw [if_neg c5] at H); (exact absurd H (by simp))
    ·(rw [if_neg c4] at H); (have c4b0 : decide (x5_1 < (l0.length : Int)) = false := decide_eq_false c4); clear c4; (obtain rfl := Option.some.inj H); go_wp2; go_ret; (exact ⟨er_, bx_⟩)
 ·(rw [if_neg c3] at H); (have c3b0 : ((l0.length : Int) == (l1.length : Int)) = false := beq_eq_false_iff_ne.mpr c3); (have c3b1 : ((l0.length : Int) != (l1.length : Int)) = true := bne_iff_ne.mpr c3); (have c3b2 : (l0.length == l1.length) = false := by first | simpa using c3 | (simp at c3 ⊢; omega)); (obtain rfl := Option.some.inj H); (go_enter Try.func18, Try.ntmps18); go_wp2; go_ret; (exact ⟨er_, bx_⟩)
end
section
attribute [local go_sem] max2_int min2_int max_two min_two max_three min_three max_four min_four
def laws_eqCubeSS.l0 : Nat → List (List (S69)) → List (List (S69)) → Int → Option (Bool)
  | 0, _, _, _ => none
  | k + 1, x0, x1, x5 => if x5 < (x0.length : Int) then (if 0 ≤ x5 then (if x5 < (x1.length : Int) then ((laws_eqCubeS.f k (rd_L4 x0 x5) (rd_L4 x1 x5)).bind fun t328 => (if t328 = true then (laws_eqCubeSS.l0 k x0 x1 (wrap64 (x5 + 1))) else (some false))) else (none)) else (none)) else (some true)
def laws_eqCubeSS.f (k : Nat) (l0 : List (List (S69))) (l1 : List (List (S69))) : Option (Bool) := if (l0.length : Int) = (l1.length : Int) then (laws_eqCubeSS.l0 k l0 l1 0) else (some false)
def laws_eqCubeSS.T6 : Bool × List (List Nat × List Nat) := (true, [([], []), ([], []), ([0, 1], [0, 1]), ([2], [2]), ([], []), ([], []), ([4, 5], [4, 5]), ([6], [6]), ([3, 7], [3, 7]), ([8], [8])])
def laws_eqCubeSS.B6 : List Nat := [0, 0, 3, 7, 0, 0, 48, 112, 255, 511]
theorem laws_eqCubeSS.tab6 : rtab .any (opsOf Try.f16 6) = laws_eqCubeSS.T6 := by kernel_rfl
theorem laws_eqCubeSS.bits6 : waitsOk laws_eqCubeSS.T6.2 laws_eqCubeSS.B6 = true := by kernel_rfl
set_option maxHeartbeats 8000000 in
set_option maxRecDepth 100000 in
theorem laws_eqCubeSS.calls (k : Nat) (A0 : Option Addr) (c0 : Nat) (l0 : List (List (S69))) (A1 : Option Addr) (c1 : Nat) (l1 : List (List (S69))) (r : Bool) (w : World) (hr0 : Kd.C (Kd.slice 69 k69) w A0 l0.length l0) (hc0 : l0.length ≤ c0) (hr1 : Kd.C (Kd.slice 69 k69) w A1 l1.length l1) (hc1 : l1.length ≤ c1) (h : laws_eqCubeSS.f k l0 l1 = some r) :
    Calls Try.prog 16 #[.slice A0 l0.length c0, .slice A1 l1.length c1] w fun e w' => e = .returned (.bool r) ∧ Below w.heap.size w w' := by
 (have HR0 := A0_ hr0); (have HC0 := A0_ hc0); clear hr0 hc0; (have HR1 := A0_ hr1); (have HC1 := A0_ hc1); clear hr1 hc1; (have HB := A0_ (Below.refl w.heap.size w)); (have H : (if (l0.length : Int) = (l1.length : Int) then (laws_eqCubeSS.l0 k l0 l1 0) else (some false)) = some r := h); clear h; (by_cases c3 : (l0.length : Int) = (l1.length : Int))
 ·(rw [if_pos c3] at H); (have c3b0 : ((l0.length : Int) == (l1.length : Int)) = true := beq_iff_eq.mpr c3); (have c3b1 : ((l0.length : Int) != (l1.length : Int)) = false := bne_eq_false_iff_eq.mpr c3); (have c3b2 : (l0.length == l1.length) = true := by first | simpa using c3 | (simp at c3 ⊢; omega)); clear c3; (have H' := A0_ H); clear H; (go_enter Try.func16, Try.ntmps16); go_wp2
  go_loopg [5] k (fun kq v5 w' => ∃ (x5_1 : Int), v5 = .int .i64 x5_1 ∧ Aside0 (laws_eqCubeSS.l0 kq l0 l1 x5_1 = some r) ∧ Aside0 (kq ≤ k) ∧ Aside0 (Below w.heap.size w w'))
  case atStart => exact ⟨(0), (by first | rfl | (simp; done) | (simp [*]; done)), H', ⟨Nat.le_refl _⟩, ⟨by repeat (first | (with_reducible first | exact HB.out | apply ba_ | apply bn_ | apply bd_) | exact HB.out)⟩⟩
  case round =>
   clear H'; (try clear c1); (try clear p2); (try clear c3); (try clear c3b0); (try clear c3b1); (try clear c3b2); (obtain ⟨x5_1, rfl, HA, HK1, HB⟩ := hrel)
   cases gk with
   | zero => exact absurd HA.out (by simp [laws_eqCubeSS.l0])
   | succ k1 =>
    (have H := HA.out); clear HA; (simp only [laws_eqCubeSS.l0] at H); (by_cases c4 : x5_1 < (l0.length : Int))
    ·(rw [if_pos c4] at H); (have c4b0 : decide (x5_1 < (l0.length : Int)) = true := decide_eq_true c4); clear c4; (by_cases c5 : 0 ≤ x5_1)
     ·(rw [if_pos c5] at H); (have c5b0 : decide (0 ≤ x5_1) = true := decide_eq_true c5); clear c5; (by_cases c6 : x5_1 < (l1.length : Int))
      ·(rw [if_pos c6] at H); (have c6b0 : decide (x5_1 < (l1.length : Int)) = true := decide_eq_true c6); clear c6; (replace H := Option.bind_eq_some_iff.mp H); (obtain ⟨t328, A70, H⟩ := H); (try dsimp only at H); (have A7 := A0_ A70); clear A70; (by_cases c8 : t328 = true)
       ·subst c8; (have H1 := H); (rw [if_pos rfl] at H1); clear H; (have H := H1); clear H1; (have H' := A0_ H); clear H; (try go_wp2); (replace HB := A0_ (below_drew1 HB.out)); (have p326 : 0 ≤ (x5_1 : Int) := of_decide_eq_true as_); (have q326 : x5_1 < (l0.length : Int) := of_decide_eq_true as_); (obtain ⟨ad326, A326_0, c326_0, e326, hx326_0, hl326_0, hi326_0⟩ := at_L4 HR0.out x5_1 p326 q326); (have hw326_0 := hx326_0); (cases e326); (replace hx326_0 := (HB.out.cell (World.block_lt_of_cell? w _ hx326_0)).trans hx326_0); (have HR326_0 := A0_ hi326_0); (have HC326_0 := A0_ hl326_0); clear hi326_0 hl326_0; (replace p326 := eq_true p326); (replace q326 := eq_true q326); (have p327 : 0 ≤ (x5_1 : Int) := of_decide_eq_true as_); (have q327 : x5_1 < (l1.length : Int) := of_decide_eq_true as_); (obtain ⟨ad327, A327_0, c327_0, e327, hx327_0, hl327_0, hi327_0⟩ := at_L4 HR1.out x5_1 p327 q327); (have hw327_0 := hx327_0); (cases e327); (replace hx327_0 := (HB.out.cell (World.block_lt_of_cell? w _ hx327_0)).trans hx327_0); (have HR327_0 := A0_ hi327_0); (have HC327_0 := A0_ hl327_0); clear hi327_0 hl327_0; (replace p327 := eq_true p327); (replace q327 := eq_true q327)
        refine start_ (n := 10) (S := fun w' => w'.cell? (ad326.add (x5_1).toNat) = some (.slice A326_0 (rd_L4 l0 x5_1).length c326_0) ∧ w'.cell? (ad327.add (x5_1).toNat) = some (.slice A327_0 (rd_L4 l1 x5_1).length c327_0)) (ds := []) #[ff,ff,ff,ff,ff,ff,ff,ff,ff,ff] (by kernel_rfl) rfl rfl ⟨((HB.out.cell (World.block_lt_of_cell? w _ hw326_0)).trans hw326_0), ((HB.out.cell (World.block_lt_of_cell? w _ hw327_0)).trans hw327_0)⟩ (fun hHeld => ?_); refine with_tabW laws_eqCubeSS.tab6 laws_eqCubeSS.bits6 (fun HT_ HW_ => ?_)
        (generalize wr.drew = w9 at HB HR326_0 HR327_0 hx326_0 hx327_0 hHeld ⊢); (refine on_ 0 (some 17) ?_); (refine on_ 1 (some 18) ?_); (refine on_ 2 (some 19) ?_); (refine on_ 4 (some 21) ?_); (refine on_ 5 (some 22) ?_); (refine on_ 6 (some 23) ?_); (refine tk_ 3 (some 20) ?_); (refine tk_ 7 (some 24) ?_)
        refine o1_ 8 (some 25) (fun K hK => ?_)
        (refine gs_ Try.func18 #[.slice A326_0 (rd_L4 l0 x5_1).length c326_0, .slice A327_0 (rd_L4 l1 x5_1).length c327_0] ?_); (with_reducible refine (laws_eqCubeS.calls k1 _ _ (rd_L4 l0 x5_1) _ _ (rd_L4 l1 x5_1) true _ ?side1 ?side2 ?side3 ?side4 A7.out).mono ?_); ((case side1 => repeat (first | exact (Kd.C_below HR326_0.out HB.out) | (with_reducible refine Kd.C_alloc ?_ _) | (with_reducible refine Kd.C_drewN ?_ _) | (with_reducible refine Kd.C_drew ?_)))); ((case side2 => exact HC326_0.out)); ((case side3 => repeat (first | exact (Kd.C_below HR327_0.out HB.out) | (with_reducible refine Kd.C_alloc ?_ _) | (with_reducible refine Kd.C_drewN ?_ _) | (with_reducible refine Kd.C_drew ?_)))); ((case side4 => exact HC327_0.out)); (rintro e w10 ⟨rfl, hb⟩); (refine ⟨_, rfl, ?_⟩); (replace HB := A0_ (below_step bw_ hb)); ((try clear hb)); ((try clear hb2)); ((try clear hk)); ((try clear hi))
        refine hK.out _ _ ⟨((HB.out.cell (World.block_lt_of_cell? w _ hw326_0)).trans hw326_0), ((HB.out.cell (World.block_lt_of_cell? w _ hw327_0)).trans hw327_0)⟩ (fun hHeld => ?_)
        clear hK K; (refine nm_ (some 25) ?_); (refine on_ 9 (some 26) ?_); (refine dn_ ?_); (try go_wp2); (go_roundg k1)
        case measure => have := HK1.out; omega
        case rel => exact ⟨(wrap64 (x5_1 + 1)), (by first | rfl | (simp; done) | (simp [*]; done)), H', ⟨by have := HK1.out; omega⟩, ⟨by repeat (first | (with_reducible first | exact HB.out | apply ba_ | apply bn_ | apply bd_) | exact HB.out)⟩⟩
       ·(replace c8 := Bool.eq_false_iff.mpr c8); subst c8; (have H1 : (some false) = some r := by rw [if_neg (show ¬ (false = true) by decide)] at H; exact H); clear H; (have H := H1); clear H1; (obtain rfl := Option.some.inj H); (try go_wp2); (replace HB := A0_ (below_drew1 HB.out)); (have p326 : 0 ≤ (x5_1 : Int) := of_decide_eq_true as_); (have q326 : x5_1 < (l0.length : Int) := of_decide_eq_true as_); (obtain ⟨ad326, A326_0, c326_0, e326, hx326_0, hl326_0, hi326_0⟩ := at_L4 HR0.out x5_1 p326 q326); (have hw326_0 := hx326_0); (cases e326); (replace hx326_0 := (HB.out.cell (World.block_lt_of_cell? w _ hx326_0)).trans hx326_0); (have HR326_0 := A0_ hi326_0); (have HC326_0 := A0_ hl326_0); clear hi326_0 hl326_0; (replace p326 := eq_true p326); (replace q326 := eq_true q326); (have p327 : 0 ≤ (x5_1 : Int) := of_decide_eq_true as_); (have q327 : x5_1 < (l1.length : Int) := of_decide_eq_true as_); (obtain ⟨ad327, A327_0, c327_0, e327, hx327_0, hl327_0, hi327_0⟩ := at_L4 HR1.out x5_1 p327 q327); (have hw327_0 := hx327_0); (cases e327); (replace hx327_0 := (HB.out.cell (World.block_lt_of_cell? w _ hx327_0)).trans hx327_0); (have HR327_0 := A0_ hi327_0); (have HC327_0 := A0_ hl327_0); clear hi327_0 hl327_0; (replace p327 := eq_true p327); (replace q327 := eq_true q327)
        refine start_ (n := 10) (S := fun w' => w'.cell? (ad326.add (x5_1).toNat) = some (.slice A326_0 (rd_L4 l0 x5_1).length c326_0) ∧ w'.cell? (ad327.add (x5_1).toNat) = some (.slice A327_0 (rd_L4 l1 x5_1).length c327_0)) (ds := []) #[ff,ff,ff,ff,ff,ff,ff,ff,ff,ff] (by kernel_rfl) rfl rfl ⟨((HB.out.cell (World.block_lt_of_cell? w _ hw326_0)).trans hw326_0), ((HB.out.cell (World.block_lt_of_cell? w _ hw327_0)).trans hw327_0)⟩ (fun hHeld => ?_); refine with_tabW laws_eqCubeSS.tab6 laws_eqCubeSS.bits6 (fun HT_ HW_ => ?_)
        (generalize wr.drew = w11 at HB HR326_0 HR327_0 hx326_0 hx327_0 hHeld ⊢); (refine on_ 0 (some 17) ?_); (refine on_ 1 (some 18) ?_); (refine on_ 2 (some 19) ?_); (refine on_ 4 (some 21) ?_); (refine on_ 5 (some 22) ?_); (refine on_ 6 (some 23) ?_); (refine tk_ 3 (some 20) ?_); (refine tk_ 7 (some 24) ?_)
        refine o1_ 8 (some 25) (fun K hK => ?_)
        (refine gs_ Try.func18 #[.slice A326_0 (rd_L4 l0 x5_1).length c326_0, .slice A327_0 (rd_L4 l1 x5_1).length c327_0] ?_); (with_reducible refine (laws_eqCubeS.calls k1 _ _ (rd_L4 l0 x5_1) _ _ (rd_L4 l1 x5_1) false _ ?side1 ?side2 ?side3 ?side4 A7.out).mono ?_); ((case side1 => repeat (first | exact (Kd.C_below HR326_0.out HB.out) | (with_reducible refine Kd.C_alloc ?_ _) | (with_reducible refine Kd.C_drewN ?_ _) | (with_reducible refine Kd.C_drew ?_)))); ((case side2 => exact HC326_0.out)); ((case side3 => repeat (first | exact (Kd.C_below HR327_0.out HB.out) | (with_reducible refine Kd.C_alloc ?_ _) | (with_reducible refine Kd.C_drewN ?_ _) | (with_reducible refine Kd.C_drew ?_)))); ((case side4 => exact HC327_0.out)); (rintro e w12 ⟨rfl, hb⟩); (refine ⟨_, rfl, ?_⟩); (replace HB := A0_ (below_step bw_ hb)); ((try clear hb)); ((try clear hb2)); ((try clear hk)); ((try clear hi))
        refine hK.out _ _ ⟨((HB.out.cell (World.block_lt_of_cell? w _ hw326_0)).trans hw326_0), ((HB.out.cell (World.block_lt_of_cell? w _ hw327_0)).trans hw327_0)⟩ (fun hHeld => ?_)
        clear hK K; (refine nm_ (some 25) ?_); (refine on_ 9 (some 26) ?_); (refine dn_ ?_); (try go_wp2); go_ret; (exact ⟨er_, bx_⟩)
      ·(rw [if_neg c6] at H); (exact absurd H (by simp))
     ·(rw [if_neg c5] at H); (exact absurd H (by simp))
    ·(rw [if_neg c4] at H); (have c4b0 : decide (x5_1 < (l0.length : Int)) = false := decide_eq_false c4); clear c4; (obtain rfl := Option.some.inj H); go_wp2; go_ret; (exact ⟨er_, bx_⟩)
 ·(rw [if_neg c3] at H); (have c3b0 : ((l0.length : Int) == (l1.length : Int)) = false := beq_eq_false_iff_ne.mpr c3); (have c3b1 : ((l0.length : Int) != (l1.length : Int)) = true := bne_iff_ne.mpr c3); (have c3b2 : (l0.length == l1.length) = false := by first | simpa using c3 | (simp at c3 ⊢; omega)); (obtain rfl := Option.some.inj H); (go_enter Try.func16, Try.ntmps16); go_wp2; go_ret; (exact ⟨er_, bx_⟩)
end
section
attribute [local go_sem] max2_int min2_int max_two min_two max_three min_three max_four min_four
def laws_eqAssembly.f (k : Nat) (l0_0 : List (List (S69))) (l1_0 : List (List (S69))) : Option (Bool) := (laws_eqCubeSS.f k l0_0 l1_0).bind fun t331 => (if t331 = true then (some true) else (some false))
set_option maxHeartbeats 8000000 in
set_option maxRecDepth 100000 in
theorem laws_eqAssembly.calls (k : Nat) (A0_0 : Option Addr) (c0_0 : Nat) (l0_0 : List (List (S69))) (A1_0 : Option Addr) (c1_0 : Nat) (l1_0 : List (List (S69))) (r : Bool) (w : World) (hr0_0 : Kd.C (Kd.slice 69 k69) w A0_0 l0_0.length l0_0) (hc0_0 : l0_0.length ≤ c0_0) (hr1_0 : Kd.C (Kd.slice 69 k69) w A1_0 l1_0.length l1_0) (hc1_0 : l1_0.length ≤ c1_0) (h : laws_eqAssembly.f k l0_0 l1_0 = some r) :
    Calls Try.prog 17 #[.agg #[.slice A0_0 l0_0.length c0_0], .agg #[.slice A1_0 l1_0.length c1_0]] w fun e w' => e = .returned (.bool r) ∧ Below w.heap.size w w' := by
 (have hu32 := Try.underlying32); (have HR0_0 := A0_ hr0_0); (have HC0_0 := A0_ hc0_0); clear hr0_0 hc0_0; (have HR1_0 := A0_ hr1_0); (have HC1_0 := A0_ hc1_0); clear hr1_0 hc1_0; (have HB := A0_ (Below.refl w.heap.size w))
 have H : ((laws_eqCubeSS.f k l0_0 l1_0).bind fun t331 => (if t331 = true then (some true) else (some false))) = some r := h
 clear h; (replace H := Option.bind_eq_some_iff.mp H); (obtain ⟨t331, A30, H⟩ := H); (try dsimp only at H); (have A3 := A0_ A30); clear A30; (have H0_ := A0_ H); clear H; (go_enter Try.func17, Try.ntmps17); (go_wp2_with (first | ((with_reducible refine gate_dst (N := 2) rfl ?_); refine be_ (N := 2) (cs := #[.slice A0_0 l0_0.length c0_0]) (t := 32) ?_; intro gb329 hg w4 hbox hb; have n0_ := A0_ (below_step bw_ hb); have n1_ := A0_ (hbox); have n2_ := A0_ ((by rw [hg]; exact (below_size bw_) : w.heap.size ≤ gb329)); have n3_ := A0_ ((by rw [hg]; exact (below_size bw_) : w.heap.size ≤ gb329)); clear HB; have HB := n0_; have BK329 := n1_; have GW329 := n2_; have GE329 := n3_; clear n0_ n1_ n2_ n3_; clear hb hbox hg) | ((with_reducible refine gate_dst (N := 3) rfl ?_); refine be_ (N := 3) (cs := #[.slice A1_0 l1_0.length c1_0]) (t := 32) ?_; intro gb330 hg w5 hbox hb; have n0_ := A0_ (blk_below (g := gb329) (o := .cells #[.slice A0_0 l0_0.length c0_0] 32 (0, 0)) (bk_ BK329) hb); have n1_ := A0_ (below_step bx_ hb); have n2_ := A0_ (hbox); have n3_ := A0_ ((by rw [hg]; exact (below_size bx_) : w.heap.size ≤ gb330)); have n4_ := A0_ ((by rw [hg]; exact (below_size bx_) : w.heap.size ≤ gb330)); have n5_ := A0_ ((by rw [hg]; exact Nat.ne_of_lt (blk_lt (g := gb329) (o := .cells #[.slice A0_0 l0_0.length c0_0] 32 (0, 0)) (bk_ BK329)) : gb329 ≠ gb330)); have n6_ := A0_ ((by rw [hg]; exact Nat.ne_of_gt (blk_lt (g := gb329) (o := .cells #[.slice A0_0 l0_0.length c0_0] 32 (0, 0)) (bk_ BK329)) : gb330 ≠ gb329)); clear BK329; clear HB; have BK329 := n0_; have HB := n1_; have BK330 := n2_; have GW330 := n3_; have GE330 := n4_; have NB329_330 := n5_; have NB330_329 := n6_; clear n0_ n1_ n2_ n3_ n4_ n5_ n6_; clear hb hbox hg; have hnb6 := NB329_330.out; have hnc6 := NB330_329.out; have hcz7_0 : w5.cell? ⟨gb329, 0, none⟩ = some (.slice A0_0 l0_0.length c0_0) := (blk_cell BK329.out 0).trans rfl; have hfz7_0 := blk_frozen BK329.out 0; have hcz8_0 : w5.cell? ⟨gb330, 0, none⟩ = some (.slice A1_0 l1_0.length c1_0) := (blk_cell BK330.out 0).trans rfl; have hfz8_0 := blk_frozen BK330.out 0) | ((with_reducible refine gate_callee (f := 16) rfl ?_); refine goesL_ (some 9) rfl rfl Try.func16 (by kernel_rfl) rfl #[.slice A0_0 l0_0.length c0_0, .slice A1_0 l1_0.length c1_0] rfl (by (try simp only [List.map_toArray, List.map_cons, List.map_nil]); first | done | rfl | (simp only [List.length_drop, List.length_take]; rfl)) ?_; (with_reducible refine (laws_eqCubeSS.calls k _ _ l0_0 _ _ l1_0 t331 _ ?side1 ?side2 ?side3 ?side4 A3.out).mono ?_); (case side1 => repeat (first | exact (Kd.C_below HR0_0.out HB.out) | (with_reducible refine Kd.C_alloc ?_ _) | (with_reducible refine Kd.C_drewN ?_ _) | (with_reducible refine Kd.C_drew ?_))); (case side2 => exact HC0_0.out); (case side3 => repeat (first | exact (Kd.C_below HR1_0.out HB.out) | (with_reducible refine Kd.C_alloc ?_ _) | (with_reducible refine Kd.C_drewN ?_ _) | (with_reducible refine Kd.C_drew ?_))); (case side4 => exact HC1_0.out); rintro e w9 ⟨rfl, hb⟩; refine ⟨_, rfl, ?_⟩; have n0_ := A0_ (blk_below (g := gb329) (o := .cells #[.slice A0_0 l0_0.length c0_0] 32 (0, 0)) (bk_ BK329) hb); have n1_ := A0_ (blk_below (g := gb330) (o := .cells #[.slice A1_0 l1_0.length c1_0] 32 (0, 0)) (bk_ BK330) hb); have n2_ := A0_ (below_step bx_ hb); clear BK329; clear BK330; clear HB; have BK329 := n0_; have BK330 := n1_; have HB := n2_; clear n0_ n1_ n2_; (try clear hb); (try clear hb2); (try clear hk); (try clear hi); refine Stop0.out ?_))); (refine Stop0.mk ?_); (have H := H0_.out); clear H0_; (by_cases c10 : t331 = true)
 ·subst c10; (have H1 := H); (rw [if_pos rfl] at H1); clear H; (have H := H1); clear H1; (obtain rfl := Option.some.inj H); go_wp2; go_ret; (exact ⟨er_, bx_⟩)
 ·(replace c10 := Bool.eq_false_iff.mpr c10); subst c10; (have H1 : (some false) = some r := by rw [if_neg (show ¬ (false = true) by decide)] at H; exact H); clear H; (have H := H1); clear H1; (obtain rfl := Option.some.inj H); go_wp2; go_ret; (exact ⟨er_, bx_⟩)
end
abbrev Lb := S71
structure S24 where
 f0 : List (List Lb)
def k24 : Kd S24 := Kd.iso (Kd.slice 25 (Kd.slice 71 k71)) (fun x : S24 => x.f0)
theorem k24_open {w : World} {x : S24} {cs : List Value} (h : k24.K w x cs) : ∃ A0 c0, cs = [.slice A0 x.f0.length c0] ∧ x.f0.length ≤ c0 ∧ (Kd.slice 71 k71).C w A0 x.f0.length x.f0 := by
 obtain ⟨A0, c0, rfl, l0, g0⟩ := h
 exact ⟨A0, c0, rfl, l0, g0⟩
def toC (c : Lb) : Cb := ⟨c.f0, c.f1, c.f2⟩
def toP (l : List (List Lb)) : List (List Cb) := l.map fun p => p.map toC
def szV {α : Type} : List (List α) → Int → Int
 | [], a => a
 | r :: rs, a => if a - (r.length : Int) < 0 then -1 else szV rs (a - (r.length : Int))
def szL {α : Type} (rows : List (List α)) (a : Int) : Int := if a - (rows.length : Int) < 0 then -1 else szV rows (a - (rows.length : Int))
def tot2 {α : Type} (rows : List (List α)) : Int := ((rows.map List.length).sum : Nat)
theorem tot2_cons {α : Type} (r : List α) (rs : List (List α)) : tot2 (r :: rs) = (r.length : Int) + tot2 rs := by unfold tot2; simp
theorem szV_eq {α : Type} : ∀ (rows : List (List α)) (a : Int), ¬ szV rows a < 0 → szV rows a = a - tot2 rows ∧ ∀ r ∈ rows, (r.length : Int) ≤ a
 | [], a, h => ⟨by simp [szV, tot2], fun r hr => by simp at hr⟩
 | x :: rs, a, h => by
  unfold szV at h ⊢
  rw [tot2_cons]
  by_cases c : a - (x.length : Int) < 0
  ·rw [if_pos c] at h; omega
  ·rw [if_neg c] at h ⊢
   obtain ⟨h1, h2⟩ := szV_eq rs _ h
   refine ⟨by omega, fun r hr => ?_⟩
   rcases List.mem_cons.1 hr with rfl | hr
   ·omega
   ·have := h2 r hr; omega
structure SzOk {α : Type} (rows : List (List α)) : Prop where
 len : rows.length ≤ 1048576
 each : ∀ r ∈ rows, r.length ≤ 1048576
 tot : tot2 rows ≤ 1048576
theorem szL_eq {α : Type} (rows : List (List α)) (a : Int) (ha : a ≤ 1048576) (h : ¬ szL rows a < 0) : szL rows a = a - (rows.length : Int) - tot2 rows ∧ SzOk rows := by
 unfold szL at h ⊢
 by_cases c : a - (rows.length : Int) < 0
 ·rw [if_pos c] at h; omega
 ·rw [if_neg c] at h ⊢
  obtain ⟨h1, h2⟩ := szV_eq rows _ h
  refine ⟨h1, ⟨by omega, fun r hr => by have := h2 r hr; omega, ?_⟩⟩
  omega
theorem szCubeSS_ev (rows : List (List Lb)) (a : Int) (ha : 0 ≤ a ∧ a ≤ 1048576) (h1 : rows.length ≤ maxLen) (h2 : ∀ r ∈ rows, r.length ≤ maxLen) : Ev (fun k => laws_szCubeSS.f k rows a) (szL rows a) := by
 unfold maxLen at h1 h2
 unfold laws_szCubeSS.f szL
 have e : wrap64 (a - (rows.length : Int)) = a - (rows.length : Int) := by unfold wrap64; omega
 rw [e]
 by_cases c : a - (rows.length : Int) < 0
 ·simp only [c, if_true]
  exact Ev.now _
 ·simp only [c, if_false]
  have := ev_listI rows (fun (s : Int) (_ : Nat) => 0 ≤ s ∧ s ≤ 1048576) (fun s i k => laws_szCubeSS.l0 k rows s i) (fun s l => szV l s) (fun s hi => ?_) (fun s j hj hi ih => ?_) rows.length 0 (a - (rows.length : Int)) (by omega) ⟨by omega, by omega⟩
  ·simpa using this
  ·exact Ev.step (f := fun _ => some s) (fun k => by simp only [laws_szCubeSS.l0]; rw [if_neg (by omega)]) (Ev.now _)
  ·have hg : rd_L2 rows (j : Int) = rows[j] := by unfold rd_L2; exact getD_nat rows _ j hj
   have hr := h2 rows[j] (List.getElem_mem hj)
   have ew : wrap64 (s - (rows[j].length : Int)) = s - (rows[j].length : Int) := by unfold wrap64; omega
   refine Ev.succ ?_
   simp only [laws_szCubeSS.l0, show (j : Int) < (rows.length : Int) from by omega, show (0 : Int) ≤ (j : Int) from by omega, if_true, hg, laws_szCubeS.f, ew, wrap_succ j (by omega)]
   rw [show szV (rows[j] :: rows.drop (j + 1)) s = if s - (rows[j].length : Int) < 0 then -1 else szV (rows.drop (j + 1)) (s - (rows[j].length : Int)) from rfl]
   by_cases c2 : s - (rows[j].length : Int) < 0
   ·simp only [c2, if_true, Option.bind_some, show ((-1 : Int) < 0) from by decide]
    exact Ev.now _
   ·simp only [c2, if_false, Option.bind_some]
    exact ih _ ⟨by omega, by omega⟩
theorem szAssembly_ev (rows : List (List Lb)) (a : Int) (ha : 0 ≤ a ∧ a ≤ 1048576) (h1 : rows.length ≤ maxLen) (h2 : ∀ r ∈ rows, r.length ≤ maxLen) : Ev (fun k => laws_szAssembly.f k rows a) (if szL rows a < 0 then -1 else szL rows a) := by
 unfold laws_szAssembly.f
 refine Ev.bind (szCubeSS_ev rows a ha h1 h2) ?_
 by_cases c : szL rows a < 0
 ·simp only [c, if_true]; exact Ev.now _
 ·simp only [c, if_false]; exact Ev.now _
theorem toCubeS_ev (l : List Lb) (h : l.length ≤ 1048576) : Ev (fun k => laws_toCubeS.f k l) (l.map toC) := by
 unfold laws_toCubeS.f
 simp only [Int.toNat_natCast, show (0 : Int) ≤ l.length from by omega, show l.length ≤ 11728124029610 from by omega, if_true]
 refine ev_at l.length (fun s j => s = (l.take j).map toC ++ List.replicate (l.length - j) z69) (l.map toC) (fun s i k => laws_toCubeS.l0 k l s i) (fun s hi => ?_) (fun s j hj hi => ?_) _ (by simp)
 ·refine Ev.step (f := fun _ => some s) (fun k => by simp only [laws_toCubeS.l0]; rw [if_neg (by omega)]) ?_
  rw [hi]
  simpa using Ev.now _
 ·have hl : s.length = l.length := by rw [hi]; simp; omega
  have hg : rd_T71 l (j : Int) = l[j] := by unfold rd_T71; exact getD_nat l _ j hj
  refine ⟨s.set j (toC l[j]), by rw [hi]; exact set_fill toC _ l j hj, fun h2 => Ev.step (fun k => ?_) h2⟩
  simp only [laws_toCubeS.l0, laws_toCube.f, Option.bind_some, hg]
  rw [if_pos (by omega), if_pos (by omega), if_pos (by omega), wrap_succ j (by omega), Int.toNat_natCast]
  rfl
theorem toCubeSS_ev (l : List (List Lb)) (h : SzOk l) : Ev (fun k => laws_toCubeSS.f k l) (toP l) := by
 have h1 := h.len
 unfold laws_toCubeSS.f toP
 simp only [Int.toNat_natCast, show (0 : Int) ≤ l.length from by omega, show l.length ≤ 11728124029610 from by omega, if_true]
 refine ev_at l.length (fun s j => s = (l.take j).map (fun p => p.map toC) ++ List.replicate (l.length - j) []) (l.map fun p => p.map toC) (fun s i k => laws_toCubeSS.l0 k l s i) (fun s hi => ?_) (fun s j hj hi => ?_) (List.replicate l.length []) (by simp)
 ·refine Ev.step (f := fun _ => some s) (fun k => by simp only [laws_toCubeSS.l0]; rw [if_neg (by omega)]) ?_
  rw [hi]
  simpa using Ev.now _
 ·have hl : s.length = l.length := by rw [hi]; simp; omega
  have hg : rd_L2 l (j : Int) = l[j] := by unfold rd_L2; exact getD_nat l _ j hj
  refine ⟨s.set j (l[j].map toC), by rw [hi]; exact set_fill (fun p => p.map toC) _ l j hj, fun h2 => Ev.succ ?_⟩
  simp only [laws_toCubeSS.l0, show (j : Int) < (l.length : Int) from by omega, show (0 : Int) ≤ (j : Int) from by omega, show (j : Int) < (s.length : Int) from by omega, if_true, hg, wrap_succ j (by omega), Int.toNat_natCast]
  exact Ev.bind (toCubeS_ev l[j] (h.each _ (List.getElem_mem hj))) h2
theorem toAssembly_ev (l : List (List Lb)) (h : SzOk l) : Ev (fun k => laws_toAssembly.f k l) (toP l) := by
 unfold laws_toAssembly.f
 exact Ev.bind (toCubeSS_ev l h) (Ev.now _)
theorem eqCubeS_ev (l : List Cb) (h : l.length ≤ 1048576) : Ev (fun k => laws_eqCubeS.f k l l) true := by
 unfold laws_eqCubeS.f
 simp only [if_true]
 refine ev_at l.length (fun (_ : Unit) _ => True) true (fun _ i k => laws_eqCubeS.l0 k l l i) (fun s hi => ?_) (fun s j hj hi => ?_) () trivial
 ·exact Ev.step (f := fun _ => some true) (fun k => by simp only [laws_eqCubeS.l0]; rw [if_neg (by omega)]) (Ev.now _)
 ·refine ⟨(), trivial, fun h2 => Ev.step (fun k => ?_) h2⟩
  simp only [laws_eqCubeS.l0, laws_eqCube.f, if_true, Option.bind_some]
  rw [if_pos (by omega), if_pos (by omega), if_pos (by omega), wrap_succ j (by omega)]
theorem eqCubeSS_ev (l : List (List Cb)) (h : SzOk l) : Ev (fun k => laws_eqCubeSS.f k l l) true := by
 have h1 := h.len
 unfold laws_eqCubeSS.f
 simp only [if_true]
 refine ev_at l.length (fun (_ : Unit) _ => True) true (fun _ i k => laws_eqCubeSS.l0 k l l i) (fun s hi => ?_) (fun s j hj hi => ?_) () trivial
 ·exact Ev.step (f := fun _ => some true) (fun k => by simp only [laws_eqCubeSS.l0]; rw [if_neg (by omega)]) (Ev.now _)
 ·have hg : rd_L4 l (j : Int) = l[j] := by unfold rd_L4; exact getD_nat l _ j hj
  refine ⟨(), trivial, fun h2 => Ev.succ ?_⟩
  simp only [laws_eqCubeSS.l0, show (j : Int) < (l.length : Int) from by omega, show (0 : Int) ≤ (j : Int) from by omega, if_true, hg, wrap_succ j (by omega)]
  refine Ev.bind (eqCubeS_ev l[j] (h.each _ (List.getElem_mem hj))) ?_
  simpa using h2
theorem eqAssembly_ev (l : List (List Cb)) (h : SzOk l) : Ev (fun k => laws_eqAssembly.f k l l) true := by
 unfold laws_eqAssembly.f
 exact Ev.bind (eqCubeSS_ev l h) (by simpa using Ev.now true)
theorem toP_ok {l : List (List Lb)} (h : SzOk l) : SzOk (toP l) := by
 refine ⟨by unfold toP; rw [List.length_map]; exact h.len, fun r hr => ?_, ?_⟩
 ·unfold toP at hr
  obtain ⟨p, hp, rfl⟩ := List.mem_map.1 hr
  rw [List.length_map]
  exact h.each p hp
 ·have : tot2 (toP l) = tot2 l := by
   unfold tot2 toP
   rw [List.map_map]
   have : (List.length ∘ fun p : List Lb => List.map toC p) = (List.length : List Lb → Nat) := by funext p; simp
   rw [this]
  rw [this]
  exact h.tot
abbrev asmP (parts : List (List Cb)) : Bool := isAsmP solP conP parts
theorem sol_at {parts : List (List Cb)} (hz : SzOk parts) : ∀ p ∈ parts, ∃ K, impl_isSolid.f K p = some (solP p) := fun p hp => (isolid_ev p (hz.each p hp)).rounds
theorem con_at {parts : List (List Cb)} (hz : SzOk parts) : ∀ p ∈ parts, solP p = true → ∃ K, impl_connectedCubes.f K p = some (conP p) := fun p hp hs => (icon_ev p (sol_in p hs).1 (hz.each p hp) (sol_in p hs).2.2).rounds
theorem asm_of {parts : List (List Cb)} (h : asmP parts = true) : (2 ≤ parts.length ∧ parts.length ≤ 4) ∧ ∀ p ∈ parts, (1 ≤ p.length ∧ p.length ≤ 24) ∧ ∀ c ∈ p, inCb c 0 7 = true := by
 unfold asmP isAsmP at h
 rw [Bool.and_eq_true, Bool.and_eq_true, Bool.and_eq_true, decide_eq_true_eq, decide_eq_true_eq, List.all_eq_true] at h
 refine ⟨h.1, fun p hp => ?_⟩
 obtain ⟨h1, _, h3⟩ := part_ok _ _ p (h.2.1 p hp)
 exact ⟨⟨(sol_in p h1).1, (sol_in p h1).2.1⟩, h3⟩
theorem fr_at {w : World} {Ap : Option Addr} {parts : List (List Cb)} (hC : kP.C w Ap parts.length parts) (hz : SzOk parts) (h : asmP parts = true) : FrOk w Ap parts := ⟨hC, by have := (asm_of h).1; omega, hz.each⟩
theorem smoves_at {parts : List (List Cb)} (hz : SzOk parts) (h : asmP parts = true) : ∀ o : List Cb, o.length = parts.length → ∃ K, spec_l27Moves.f K parts o = some (movesP parts o) := fun o ho =>
 (smoves_ev parts o ho (by have := (asm_of h).1; omega) (by have := (asm_of h).1; omega) hz.each (fun p hp => ((asm_of h).2 p hp).2)).rounds
theorem sIsAsm_calls (Ap : Option Addr) (cp : Nat) (parts : List (List Cb)) (w : World) (hC : kP.C w Ap parts.length parts) (hcp : parts.length ≤ cp) (hz : SzOk parts) :
  Calls Try.prog 54 #[.agg #[.slice Ap parts.length cp]] w fun e w' => e = .returned (.bool (asmP parts)) ∧ Below w.heap.size w w' :=
 spec_IsAssembly.calls 0 Ap cp parts (asmP parts) w hC hcp (by unfold spec_IsAssembly.f; rw [if_pos ⟨hz.len, hz.each⟩, asm_same])
theorem iIsAsm_calls (w0 : World) (Ap : Option Addr) (cp : Nat) (parts : List (List Cb)) (hC : kP.C w0 Ap parts.length parts) (hz : SzOk parts) (rest : List Res) (w : World) (hs : Sp w0 rest w) :
  Calls Try.prog 56 #[.agg #[.slice Ap parts.length cp]] w fun e w' => e = .returned (.bool (asmP parts)) ∧ Sp w0 rest w' := isAssembly_calls w0 Ap cp parts hC hz.each solP conP (sol_at hz) (con_at hz) rest w hs
theorem asm_rows {parts : List (List Cb)} (h : asmP parts = true) : (2 ≤ parts.length ∧ parts.length ≤ 8) ∧ ∀ p ∈ parts, 0 < p.length ∧ p.length ≤ 64 := by
 obtain ⟨h1, h2⟩ := asm_of h
 exact ⟨by omega, fun p hp => by have := (h2 p hp).1; omega⟩
def stepM (parts : List (List Cb)) (o : List Cb) (m : Int) : Option (List Cb) := if (isMv parts.length m && possP parts o m) = true then some (movedP o m) else none
def followF (parts : List (List Cb)) (way : List Int) : Option (List Cb) := way.foldl (fun a m => a.bind fun o => stepM parts o m) (some (zerosC parts.length))
theorem foldl_none {α β : Type} (f : α → β → Option α) : ∀ l : List β, l.foldl (fun a m => a.bind fun o => f o m) none = none
 | [] => rfl
 | m :: ms => foldl_none f ms
theorem follow_next (parts : List (List Cb)) (way : List Int) (j : Nat) (h : j < way.length) : followF parts (way.take (j + 1)) = (followF parts (way.take j)).bind fun o => stepM parts o way[j] := by
 unfold followF
 rw [List.take_succ_eq_append_getElem h, List.foldl_append]
 rfl
theorem follow_dead (parts : List (List Cb)) (way : List Int) (j : Nat) (h : followF parts (way.take j) = none) : followF parts way = none := by
 unfold followF at h ⊢
 rw [← List.take_append_drop j way, List.foldl_append, h]
 exact foldl_none _ _
def RdsI (w0 : World) (r : Res) (Aw : Option Addr) (way : List Int) : Prop := ∀ (fp : Nat → Prop) (w : World), Below w0.heap.size w0 w → r.P fp w → kI.C w Aw way.length way
theorem RdsI.old {w0 : World} {Aw : Option Addr} {way : List Int} (h : kI.C w0 Aw way.length way) : RdsI w0 (Res.pure True) Aw way := fun _ w hb _ => Kd.C_below h hb
theorem RdsI.row {w0 : World} {Aw : Option Addr} {e base n c : Nat} {way : List Int} : RdsI w0 (Res.row kI e base (.slice Aw n c) way) Aw way := fun fp w hb h => (Kd.R_reads' h).2.2
theorem Sp.rdsI {w0 w : World} {rs : List Res} {i : Nat} {r : Res} {Aw : Option Addr} {way : List Int} (h : Sp w0 rs w) (hi : rs[i]? = some r) (hr : RdsI w0 r Aw way) : kI.C w Aw way.length way := by
 obtain ⟨fp, hp, _⟩ := h.get hi
 exact hr fp w h.below hp
set_option maxHeartbeats 4000000 in
set_option maxRecDepth 100000 in
theorem follow_calls (w0 : World) (Ap : Option Addr) (cp g gM : Nat) (parts : List (List Cb)) (hF : FrOk w0 Ap parts) (hne : 1 ≤ parts.length) (r : Res) (Aw : Option Addr) (cw : Nat) (way : List Int) (hr : RdsI w0 r Aw way) (hw : way.length ≤ 1048576) (hm : ∀ m ∈ way, m ≤ 9223372036854775807) (rest : List Res) (w : World)
  (hs : Sp w0 ([frBlk g gM Ap cp parts, frMemo gM parts, r] ++ rest) w) :
  Calls Try.prog 69 #[.pointer (some ⟨g, 0, none⟩), .slice Aw way.length cw] w fun e w' =>
   (∃ o A c, followF parts way = some o ∧ o.length = parts.length ∧ e = .returned (.tuple #[.slice A o.length c, .bool true]) ∧ Sp w0 ([Res.row kC 69 w0.heap.size (.slice A o.length c) o, frBlk g gM Ap cp parts, frMemo gM parts, r] ++ rest) w') ∨
   (followF parts way = none ∧ e = .returned (.tuple #[.slice none 0 0, .bool false]) ∧ Sp w0 ([frBlk g gM Ap cp parts, frMemo gM parts, r] ++ rest) w') := by
 have hu69 := Try.underlying69
 have hu130 := Try.underlying130
 have HS := A0_ hs
 have HF := A0_ hF
 have HNE := A0_ hne
 have HRD := A0_ hr
 have HWL := A0_ hw
 have HMX := A0_ hm
 have HN := A0_ hF.len
 have ht0 : followF parts (way.take 0) = some (zerosC parts.length) := rfl
 have HZL := A0_ (show (zerosC parts.length).length = parts.length by simp [zerosC])
 clear hs hF hne hr hw hm
 have hf0 := (cl_ HS 0 0 rfl).trans rfl
 go_enter Try.func69, Try.ntmps69
 go_wp2_with (first
  | ((with_reducible refine gate_dst (N := 16) rfl ?_); refine Kd.R_make kC _ 69 rfl (N := 16) rfl 34 _ _ rfl ((parts.length : Nat) : Int) rfl rfl Try.underlying34 ((.agg #[(.int .i64 0), (.int .i64 0), (.int .i64 0)])) 24 info69 rfl (by decide) (by decide) ((⟨0, 0, 0⟩ : Cb)) (ok := fun _ => True) (okp := fun _ => True) (k69_mkM _ _ _ (⟨0, 0, 0⟩ : Cb)) (fun _ hk => hk) trivial ?h0 ?hl (Below.refl _ _) (Nat.le_refl _) ?_; (case h0 => omega); (case hl => have := HN.out; omega); intro vm_ wm_ ho_ hb_ hg_ hn_; clear hg_ hn_; rw [Int.toNat_natCast] at ho_; obtain ⟨zs, hxs_⟩ : ∃ xs_, xs_ = List.replicate (parts.length) ((⟨0, 0, 0⟩ : Cb)) := ⟨_, rfl⟩; rw [← hxs_] at ho_; have Hzs := A0_ hxs_; clear hxs_; replace HS := A0_ (Sp.made' HS.out hb_ ho_); clear ho_ hb_; obtain ⟨Az, cz, ev_⟩ := Sp.slice HS.out (i := 0) rfl; subst ev_; clear hf0))
 have HZS := A0_ (show zs = zerosC parts.length from Hzs.out)
 have HT0 := A0_ (show followF parts (way.take 0) = some zs by rw [HZS.out]; rfl)
 rw [← HZS.out] at HZL
 clear ht0 Hzs HZS
 go_loopg [6, 19] (way.length + 1) (fun kq v6 v19 w' => ∃ (j : Nat) (o : List Cb) (Ao : Option Addr) (co : Nat), v19 = .int .i64 (j : Int) ∧ v6 = .slice Ao o.length co ∧ Aside0 (j ≤ way.length ∧ kq + j = way.length + 1 ∧ o.length = parts.length ∧ followF parts (way.take j) = some o) ∧ Aside0 (Sp w0 ([Res.row kC 69 w0.heap.size (.slice Ao o.length co) o, frBlk g gM Ap cp parts, frMemo gM parts, r] ++ rest) w'))
 case atStart => exact ⟨0, zs, Az, cz, rfl, rfl, ⟨by omega, by omega, HZL.out, HT0.out⟩, HS⟩
 case round =>
  clear HS HT0 HZL
  obtain ⟨j, o, Ao, co, rfl, rfl, HX, HS⟩ := hrel
  obtain ⟨k1, rfl⟩ : ∃ k1, gk = k1 + 1 := ⟨gk - 1, by have := HX.out; omega⟩
  by_cases cj : j < way.length
  ·have cj0 : decide (j < way.length) = true := decide_eq_true cj
   have q0 : (0 ≤ (j : Int)) = True := eq_true (by omega)
   have q1 : ((j : Int) < (way.length : Int)) = True := eq_true (by omega)
   have q2 : (j < way.length) = True := eq_true cj
   have HW := A0_ (wrap_succ j (by have := HWL.out; omega))
   have hfn := follow_next parts way j cj
   rw [HX.out.2.2.2, Option.bind_some] at hfn
   obtain ⟨adw, e, hxm⟩ := Kd.at_int (Sp.rdsI HS.out (i := 3) rfl HRD.out) (j : Int) (by omega) (by omega)
   subst e
   rw [Int.toNat_natCast, rd_nat way j cj] at hxm
   have HMM := A0_ (HMX.out way[j] (List.getElem_mem cj))
   obtain ⟨m, hmd⟩ : ∃ m, m = way[j] := ⟨_, rfl⟩
   rw [← hmd] at hfn hxm HMM
   obtain ⟨ado, e⟩ := Sp.some_ HS.out (i := 0) rfl (by rw [HX.out.2.2.1]; exact HNE.out)
   subst e
   have HCJ := A0_ cj
   clear cj hmd
   cases hmv : isMv parts.length m with
   | false =>
    have HNO := A0_ (follow_dead parts way (j + 1) (by rw [hfn]; unfold stepM; rw [hmv]; rfl))
    have HAN := A0_ (fun rest w hs => after_no w0 Ap cp g gM parts HF.out (.slice (some ado) o.length co) m HMM.out hmv rest w hs)
    clear hmv hfn
    go_wp2_with (first
     | (go_at_call 87; go_loud (have h2_ := A0_ (Sp.arr (pre := [Res.row kC 69 w0.heap.size (.slice (some ado) o.length co) o, frBlk g gM Ap cp parts, frMemo gM parts, r]) (pre' := [frBlk g gM Ap cp parts, frMemo gM parts, r, Res.row kC 69 w0.heap.size (.slice (some ado) o.length co) o]) (rest := rest) [1, 2, 3, 0] HS.out rfl rfl); refine (HAN.out _ _ h2_.out).mono ?_; rintro e wa_ ⟨rfl, hs_⟩; replace HS := A0_ (hs_); clear hs_ h2_ hxm)))
    go_ret2
    exact .inr ⟨HNO.out, rfl, Sp.out (rs := [frBlk g gM Ap cp parts, frMemo gM parts, r, Res.row kC 69 w0.heap.size (.slice (some ado) o.length co) o] ++ rest) HS.out 3⟩
   | true =>
    have HAY := A0_ (fun rest w hs => after_yes w0 Ap cp g gM parts HF.out HNE.out (Res.row kC 69 w0.heap.size (.slice (some ado) o.length co) o) ado co o Rds.row HX.out.2.2.1 m HMM.out hmv rest w hs)
    have HML := A0_ (movedP_len o m)
    cases hps : possP parts o m with
    | false =>
     have HNO := A0_ (follow_dead parts way (j + 1) (by rw [hfn]; unfold stepM; rw [hmv, hps]; rfl))
     rw [hps] at HAY
     clear hmv hfn hps
     go_wp2_with (first
      | (go_at_call 87; go_loud (have h2_ := A0_ (Sp.arr (pre := [Res.row kC 69 w0.heap.size (.slice (some ado) o.length co) o, frBlk g gM Ap cp parts, frMemo gM parts, r]) (pre' := [frBlk g gM Ap cp parts, frMemo gM parts, Res.row kC 69 w0.heap.size (.slice (some ado) o.length co) o, r]) (rest := rest) [1, 2, 0, 3] HS.out rfl rfl); refine (HAY.out ([r] ++ rest) _ h2_.out).mono ?_; rintro e wa_ ⟨An, cn, rfl, hs_⟩; replace HS := A0_ (hs_); clear hs_ h2_ hxm)))
     go_ret2
     exact .inr ⟨HNO.out, rfl, Sp.out (Sp.out HS.out 0) 2⟩
    | true =>
     have HNX := A0_ (show followF parts (way.take (j + 1)) = some (movedP o m) by rw [hfn]; unfold stepM; rw [hmv, hps]; rfl)
     rw [hps] at HAY
     clear hmv hfn hps
     go_wp2_with (first
      | (go_at_call 87; go_loud (have h2_ := A0_ (Sp.arr (pre := [Res.row kC 69 w0.heap.size (.slice (some ado) o.length co) o, frBlk g gM Ap cp parts, frMemo gM parts, r]) (pre' := [frBlk g gM Ap cp parts, frMemo gM parts, Res.row kC 69 w0.heap.size (.slice (some ado) o.length co) o, r]) (rest := rest) [1, 2, 0, 3] HS.out rfl rfl); refine (HAY.out ([r] ++ rest) _ h2_.out).mono ?_; rintro e wa_ ⟨An, cn, rfl, hs_⟩; replace HS := A0_ (hs_); clear hs_ h2_ hxm)))
     go_roundg k1
     case measure => omega
     case rel =>
      rw [HW.out]
      exact ⟨j + 1, movedP o m, An, cn, rfl, rfl, ⟨by have := HCJ.out; omega, by have := HX.out; omega, by rw [HML.out]; exact HX.out.2.2.1, HNX.out⟩, ⟨Sp.out HS.out 3⟩⟩
  ·have cj0 : decide (j < way.length) = false := decide_eq_false cj
   have q1 : ((j : Int) < (way.length : Int)) = False := eq_false (by omega)
   have q2 : (j < way.length) = False := eq_false cj
   have hj : j = way.length := by have := HX.out; omega
   have HFO := A0_ (show followF parts way = some o by have h1 := HX.out.2.2.2; rw [hj, List.take_length] at h1; exact h1)
   clear cj hj
   go_wp2
   go_ret2
   exact .inl ⟨o, Ao, co, HFO.out, HX.out.2.2.1, rfl, HS.out⟩
end Go.Proofs.Ytlbckkagjekhnaa.A

namespace Go.Proofs.Ytlbckkagjekhnaa.A
open Go.RowKit Go.Proofs.YtlbckkagjekhnaaW.PrintWords Go.Proofs.YtlbckkagjekhnaaW.PrintLast Go.Proofs.YtlbckkagjekhnaaW.PrintMore
set_option linter.unusedVariables false
set_option linter.unusedSimpArgs false
section
attribute [local go_sem] min2_int min_two
def accR (parts : List (List Cb)) (offs : List Cb) (part i : Nat) : List (List Cb) := ((List.range i).filter fun k => decide (k ≠ part)).map fun k => shiftP (oAt offs k) (pAt parts k)
theorem accR_skip (parts : List (List Cb)) (offs : List Cb) (part i : Nat) (h : i = part) : accR parts offs part (i + 1) = accR parts offs part i := by
 unfold accR
 rw [List.range_succ, List.filter_append]
 simp [h]
theorem accR_next (parts : List (List Cb)) (offs : List Cb) (part i : Nat) (h : ¬ i = part) : accR parts offs part (i + 1) = accR parts offs part i ++ [shiftP (oAt offs i) (pAt parts i)] := by
 unfold accR
 rw [List.range_succ, List.filter_append]
 simp [h]
theorem range_erase (p : Nat) : ∀ n, p < n → (List.range n).filter (fun k => decide (k ≠ p)) = (List.range n).eraseIdx p
 | 0, h => by omega
 | n + 1, h => by
  rw [List.range_succ, List.filter_append]
  by_cases e : n = p
  ·subst e
   rw [List.eraseIdx_append_of_length_le (by simp), List.length_range, Nat.sub_self]
   have h1 : (List.range n).filter (fun k => decide (k ≠ n)) = List.range n := by
    rw [List.filter_eq_self]
    intro k hk
    have := List.mem_range.1 hk
    simp
    omega
   rw [h1]
   simp
  ·rw [List.eraseIdx_append_of_lt_length (by rw [List.length_range]; omega), range_erase p n (by omega)]
   simp [e]
theorem accR_all (parts : List (List Cb)) (offs : List Cb) (part : Nat) (h : part < parts.length) : accR parts offs part parts.length = (allMoved parts offs).eraseIdx part := by
 unfold accR allMoved
 rw [range_erase part _ h, erase_map]
theorem accR_flat (parts : List (List Cb)) (offs : List Cb) (part : Nat) (h : ∀ p ∈ parts, p.length ≤ 64) : ∀ i, i ≤ parts.length → (accR parts offs part i).flatten.length ≤ 64 * i
 | 0, _ => Nat.zero_le _
 | i + 1, hi => by
  have ih := accR_flat parts offs part h i (by omega)
  by_cases e : i = part
  ·rw [accR_skip parts offs part i e]; omega
  ·rw [accR_next parts offs part i e, List.flatten_append, List.length_append]
   have h1 := h _ (pAt_mem parts i (by omega))
   have h2 : [shiftP (oAt offs i) (pAt parts i)].flatten.length = (pAt parts i).length := by simp [shiftP]
   omega
theorem flat_pos {rows : List (List Cb)} (h : RowsOk rows) : 0 < rows.flatten.length := by
 cases rows with
 | nil => exact absurd h.1 (by simp)
 | cons p rest =>
  have hp := (h.2.2 p List.mem_cons_self).1
  rw [List.flatten_cons, List.length_append]
  omega
theorem neg_add (c q : Cb) : addC c ⟨wrap64 (-q.f0), wrap64 (-q.f1), wrap64 (-q.f2)⟩ = subC c q := by
 unfold addC subC
 simp only [S69.mk.injEq]
 unfold wrap64
 omega
theorem minC_self (a : Cb) : minC a a = a := by
 unfold minC
 simp
theorem least_same (rows : List (List Cb)) (h : RowsOk rows) : leastP rows = (rows.flatten.drop 1).foldl minC (cAt rows.flatten 0) := by
 cases rows with
 | nil => exact absurd h.1 (by simp)
 | cons p rest =>
  have hp := (h.2.2 p List.mem_cons_self).1
  cases p with
  | nil => simp at hp
  | cons a t =>
   show ((a :: t) :: rest).foldl (fun a p => p.foldl minC a) a = _
   rw [← List.foldl_flatten]
   show ((a :: t) ++ rest.flatten).foldl minC a = ((t ++ rest.flatten)).foldl minC a
   show (t ++ rest.flatten).foldl minC (minC a a) = _
   rw [minC_self]
theorem Sp.toEnd {w0 w : World} {r : Res} {rs : List Res} (h : Sp w0 (r :: rs) w) : Sp w0 (rs ++ [r]) w := by
 refine Sp.pick h (fun i => if i < rs.length then i + 1 else if i = rs.length then 0 else i) (fun i j e => ?_) (fun i s hi => ?_)
 ·by_cases a : i < rs.length
  ·by_cases b : j < rs.length
   ·rw [if_pos a, if_pos b] at e; omega
   ·rw [if_pos a, if_neg b] at e
    by_cases c : j = rs.length
    ·rw [if_pos c] at e; omega
    ·rw [if_neg c] at e; omega
  ·rw [if_neg a] at e
   by_cases c : i = rs.length
   ·rw [if_pos c] at e
    by_cases b : j < rs.length
    ·rw [if_pos b] at e; omega
    ·rw [if_neg b] at e
     by_cases d : j = rs.length
     ·omega
     ·rw [if_neg d] at e; omega
   ·rw [if_neg c] at e
    by_cases b : j < rs.length
    ·rw [if_pos b] at e; omega
    ·rw [if_neg b] at e
     by_cases d : j = rs.length
     ·rw [if_pos d] at e; omega
     ·rw [if_neg d] at e; omega
 ·by_cases a : i < rs.length
  ·rw [if_pos a, List.getElem?_cons_succ]
   rwa [List.getElem?_append_left a] at hi
  ·rw [if_neg a]
   rw [List.getElem?_append_right (by omega)] at hi
   have hl := (List.getElem?_eq_some_iff.1 hi).1
   have : i = rs.length := by simp at hl; omega
   subst this
   rw [if_pos rfl]
   rw [Nat.sub_self] at hi
   exact hi
theorem rowsOf_add (b : Nat) (L : List (Sl × List Cb)) (x : Sl × List Cb) : rowsOf b (L ++ [x]) = rowsOf b L ++ [Res.row kC 69 b (slV x.1) x.2] := by
 unfold rowsOf
 rw [List.map_append]
 rfl
theorem Sp.slStore {w0 w : World} {rs : List Res} {i e n cap : Nat} {ad : Addr} {xs : List Sl} (h : Sp w0 rs w) (hi : rs[i]? = some (Res.row kSl e w0.heap.size (.slice (some ad) n cap) xs)) (k : Nat) (hk : k < n) (s : Sl) :
  ∃ w1, (Instr.storeAt 34 (.pointer (some (ad.add k))) (slV s)).run Try.prog w = .ok () w1 ∧ Sp w0 (rs.set i (Res.row kSl e w0.heap.size (.slice (some ad) n cap) (xs.set k s))) w1 := by
 have h1 := Sp.rowStoreA (P := Try.prog) h hi k hk 34 (slV s) [slV s] rfl rfl (by kernel_rfl) (fun q hq => by rw [List.mem_singleton.1 hq]; rfl)
 have h2 := Sp.rowSetA h hi k hk s [slV s] rfl (fun okp => rfl)
 rw [show kSl.sz = 1 from rfl, Nat.mul_one] at h1 h2
 exact ⟨_, h1, h2⟩
def rstF.T7 : Bool × List (List Nat × List Nat) := (true, [([], []), ([], []), ([1], [1]), ([], []), ([2, 3], [2, 3]), ([4], [4]), ([], []), ([], []), ([6, 7], [6, 7]), ([8], [8]), ([5, 9], [5, 9]), ([10], [10]), ([0, 11, 10], [0, 11]), ([12, 12, 0, 1, 2, 3, 4, 5, 6, 7, 8, 9, 10, 11, 12], [0, 12])])
def rstF.B7 : List Nat := [0, 0, 2, 0, 14, 30, 0, 0, 192, 448, 1022, 2046, 4095, 8191]
theorem rstF.tab7 : rtab .any (opsOf Try.f46 7) = rstF.T7 := by kernel_rfl
theorem rstF.bits7 : waitsOk rstF.T7.2 rstF.B7 = true := by kernel_rfl
set_option maxHeartbeats 8000000 in
set_option maxRecDepth 100000 in
theorem sl28Rest_calls (Ap : Option Addr) (cp : Nat) (parts : List (List Cb)) (Ao : Option Addr) (co : Nat) (offs : List Cb) (part : Nat) (w : World) (hC : kP.C w Ap parts.length parts) (hcp : parts.length ≤ cp) (hO : kC.C w Ao offs.length offs) (hco : offs.length ≤ co)
  (hol : offs.length = parts.length) (hn : 2 ≤ parts.length ∧ parts.length ≤ 8) (hsz : ∀ p ∈ parts, 0 < p.length ∧ p.length ≤ 64) (hpt : part < parts.length) :
  Calls Try.prog 46 #[.agg #[.slice Ap parts.length cp], .slice Ao offs.length co, .int .i64 (part : Int)] w fun e w' => ∃ v_ : Value, e = .returned v_ ∧ Kd.S kC2 34 w' w.heap.size (fun _ => True) v_ (restP parts offs part) ∧ Below w.heap.size w w' := by
 have hu69 := Try.underlying69
 have hu34 := Try.underlying34
 have hu32 := Try.underlying32
 have HS := A0_ (Sp.start w)
 have hro := allMoved_ok parts offs part hn hsz hpt
 have hre : restP parts offs part = backP ((allMoved parts offs).eraseIdx part) := rfl
 rw [← accR_all parts offs part hpt] at hro hre
 have HC := A0_ hC
 have HCP := A0_ hcp
 have HO := A0_ hO
 have HCO := A0_ hco
 have HRO := A0_ hro
 have HRE := A0_ hre
 have HPT := A0_ hpt
 have HOL := A0_ hol
 have HN := A0_ hn
 have HSZ := A0_ hsz
 clear hC hcp hO hco hol hn hsz hpt hro hre
 go_enter Try.func46, Try.ntmps46
 go_wp2_with (first
  | ((with_reducible refine gate_dst (N := 3) rfl ?_); refine be_ (N := 3) (cs := #[.slice Ap parts.length cp]) (t := 32) ?_; intro ga hgb_ wb_ hcb_ hbb_; replace HS := A0_ (Sp.boxed HS.out hgb_ hcb_ hbb_); clear hgb_ hcb_ hbb_)
  | ((with_reducible refine gate_dst (N := 15) rfl ?_); refine Kd.R_lit kSl _ 34 ?hg (N := 15) ?hd (xs := ([] : List Sl)) (inner := []) (ok := fun _ => True) (okp := fun _ => True) ?hr ?hp (fun _ hk => hk) trivial (Below.refl _ _) (Nat.le_refl _) (by simp) ?_; (case hd => rfl); (case hg => rfl); (case hr => first | (go_simp; done) | (go_simp; rfl)); (case hp => exact (Reps.none _ _)); intro vl_ wl_ ho_ hb_ hg_ hn_; clear hg_ hn_; replace HS := A0_ (Sp.made' HS.out hb_ ho_); clear ho_ hb_; obtain ⟨Ar, cr, ev_⟩ := Sp.slice HS.out (i := 0) rfl; subst ev_)
  | ((with_reducible refine gate_dst (N := 16) rfl ?_); refine Kd.R_lit kC _ 69 ?hg (N := 16) ?hd (xs := ([] : List Cb)) (inner := []) (ok := fun _ => True) (okp := fun _ => True) ?hr ?hp (fun _ hk => hk) trivial (Below.refl _ _) (Nat.le_refl _) (by simp) ?_; (case hd => rfl); (case hg => rfl); (case hr => first | (go_simp; done) | (go_simp; rfl)); (case hp => exact (Reps.none _ _)); intro vl_ wl_ ho_ hb_ hg_ hn_; clear hg_ hn_; replace HS := A0_ (Sp.made' HS.out hb_ ho_); clear ho_ hb_; obtain ⟨Aa, ca, ev_⟩ := Sp.slice HS.out (i := 0) rfl; subst ev_))
 replace HS := A0_ (Sp.swap HS.out)
 go_loopg [7, 8, 9] (offs.length + 1) (fun kq v7 v8 v9 w' => ∃ (i : Nat) (Ar : Option Addr) (cr : Nat) (Aa : Option Addr) (ca : Nat) (M : List (Sl × List Cb)), v9 = .int .i64 (i : Int) ∧ v7 = .slice Ar M.length cr ∧ v8 = .slice Aa (M.map Prod.snd).flatten.length ca ∧ Aside0 (i ≤ offs.length ∧ kq + i = offs.length + 1 ∧ M.map Prod.snd = accR parts offs part i) ∧ Aside0 (Sp w ([Res.row kSl 34 w.heap.size (.slice Ar M.length cr) (M.map Prod.fst), Res.row kC 69 w.heap.size (.slice Aa (M.map Prod.snd).flatten.length ca) (M.map Prod.snd).flatten, Res.blk ga #[.slice Ap parts.length cp] 32] ++ rowsOf w.heap.size M) w'))
 case atStart => exact ⟨0, Ar, cr, Aa, ca, [], rfl, rfl, rfl, ⟨by omega, by omega, rfl⟩, HS⟩
 case round =>
  clear HS
  obtain ⟨i, Ar, cr, Aa, ca, M, rfl, rfl, rfl, HX, HS⟩ := hrel
  obtain ⟨k1, rfl⟩ : ∃ k1, gk = k1 + 1 := ⟨gk - 1, by have := HX.out; omega⟩
  by_cases ci : i < offs.length
  ·have ci0 : decide (i < offs.length) = true := decide_eq_true ci
   have q0 : (0 ≤ (i : Int)) = True := eq_true (by omega)
   have q1 : ((i : Int) < (offs.length : Int)) = True := eq_true (by omega)
   have q2 : (i < offs.length) = True := eq_true ci
   have HW := A0_ (wrap_succ i (by have := HOL.out; have := HN.out.2; omega))
   by_cases hip : i = part
   ·have e0 : (i = part) = True := eq_true hip
    have e1 : ((i : Int) = (part : Int)) = True := eq_true (by omega)
    have e2 : ((i : Int) == (part : Int)) = true := by rw [beq_iff_eq]; omega
    have e3 : ((i : Int) != (part : Int)) = false := by rw [bne_eq_false_iff_eq]; omega
    have HSK := A0_ (accR_skip parts offs part i hip)
    have HCI := A0_ ci
    clear hip ci
    go_wp2
    go_roundg k1
    case measure => omega
    case rel =>
     rw [HW.out]
     exact ⟨i + 1, Ar, cr, Aa, ca, M, rfl, rfl, rfl, ⟨by have := HCI.out; omega, by have := HX.out; omega, by rw [HSK.out]; exact HX.out.2.2⟩, HS⟩
   ·have e0 : (i = part) = False := eq_false hip
    have e1 : ((i : Int) = (part : Int)) = False := eq_false (by omega)
    have e2 : ((i : Int) == (part : Int)) = false := by rw [beq_eq_false_iff_ne]; omega
    have e3 : ((i : Int) != (part : Int)) = true := by rw [bne_iff_ne]; omega
    have HSK := A0_ (accR_next parts offs part i hip)
    have HCI := A0_ ci
    have hml : M.length ≤ i := by
     have := congrArg List.length HX.out.2.2
     rw [List.length_map] at this
     rw [this]
     unfold accR
     rw [List.length_map]
     exact Nat.le_trans (List.length_filter_le _ _) (by rw [List.length_range]; exact Nat.le_refl _)
    have HMN := A0_ (show M.length ≤ 8 by have := HOL.out; have := HN.out.2; omega)
    obtain ⟨adp, Ai, ci_, e, hx0, hx1, hx2⟩ := at_L4 HC.out (i : Int) (by omega) (by have := HOL.out; omega)
    subst e
    rw [show rd_L4 parts (i : Int) = pAt parts i from rfl] at hx0 hx1 hx2
    rw [Int.toNat_natCast] at hx0
    obtain ⟨ado, e, hy0, hy1, hy2⟩ := at_T69 HO.out (i : Int) (by omega) (by omega)
    subst e
    rw [show rd_T69 offs (i : Int) = oAt offs i from rfl] at hy0 hy1 hy2
    rw [Int.toNat_natCast] at hy0 hy1 hy2
    have hpz := HSZ.out _ (pAt_mem parts i (by have := HOL.out; omega))
    obtain ⟨p, hp⟩ : ∃ p, p = pAt parts i := ⟨_, rfl⟩
    obtain ⟨o, ho⟩ : ∃ o, o = oAt offs i := ⟨_, rfl⟩
    rw [← hp, ← ho] at HSK
    rw [← hp] at hx0 hx1 hx2 hpz
    rw [← ho] at hy0 hy1 hy2
    obtain ⟨KM, hKM⟩ := (smove_ev p o (by omega)).rounds
    obtain ⟨m, hm⟩ : ∃ m, m = shiftP o p := ⟨_, rfl⟩
    rw [show (p.map fun c => addC c o) = m from hm.symm] at hKM
    rw [← hm] at HSK
    have HML := A0_ (show m.length ≤ 64 by rw [hm, shiftP_len]; exact hpz.2)
    have HP0 := A0_ hx0
    have HP1 := A0_ hx1
    have HP2 := A0_ hx2
    have HX0 := A0_ hy0
    have HX1 := A0_ hy1
    have HX2 := A0_ hy2
    have HKM := A0_ hKM
    obtain ⟨FL, hfl⟩ : ∃ FL, FL = (M.map Prod.snd).flatten := ⟨_, rfl⟩
    rw [← hfl] at HS ⊢
    have HFL := A0_ hfl
    have p1 : ((i : Int) < (parts.length : Int)) = True := eq_true (by have := HOL.out; omega)
    have p2 : (i < parts.length) = True := eq_true (by have := HOL.out; omega)
    clear hip ci hml hx0 hx1 hx2 hy0 hy1 hy2 hpz hp ho hKM hm hfl
    go_wp2
    replace HS := A0_ (show Sp w ([Res.row kSl 34 w.heap.size (.slice Ar M.length cr) (M.map Prod.fst), Res.row kC 69 w.heap.size (.slice Aa FL.length ca) FL, Res.blk ga #[.slice (some adp) parts.length cp] 32] ++ rowsOf w.heap.size M) wr.drew from Sp.drew HS.out)
    refine start_ (n := 14) (S := fun w' => w'.cell? ⟨ga, 0, none⟩ = some (.slice (some adp) parts.length cp) ∧ w'.cell? (adp.add i) = some (.slice Ai p.length ci_) ∧ w'.cell? (ado.add (i * 3)) = some (.int .i64 o.f0) ∧ w'.cell? ⟨(ado.add (i * 3)).block, (ado.add (i * 3)).off + 1, none⟩ = some (.int .i64 o.f1) ∧ w'.cell? ⟨(ado.add (i * 3)).block, (ado.add (i * 3)).off + 2, none⟩ = some (.int .i64 o.f2)) (ds := []) #[false, false, false, false, false, false, false, false, false, false, false, false, false, false] (by kernel_rfl) rfl rfl (⟨(cl_ HS 2 0 rfl).trans rfl, pw_cell_below HS.out.below HP0.out, pw_cell_below HS.out.below HX0.out, pw_cell_below HS.out.below HX1.out, pw_cell_below HS.out.below HX2.out⟩) (fun hHeld => ?_)
    refine with_tabW rstF.tab7 rstF.bits7 (fun HT_ HW_ => ?_)
    generalize wr.drew = wD at HS hHeld ⊢
    refine on_ 0 (some 26) ?_
    refine on_ 1 (some 27) ?_
    refine tk_ 2 (some 28) ?_
    refine on_ 3 (some 29) ?_
    refine on_ 4 (some 30) ?_
    refine tk_ 5 (some 31) ?_
    refine on_ 6 (some 32) ?_
    refine on_ 7 (some 33) ?_
    refine on_ 8 (some 34) ?_
    refine tk_ 9 (some 35) ?_
    refine o1_ 10 (some 36) (fun K hK => ?_)
    refine gs_ Try.func71 #[.slice Ai p.length ci_, .agg #[.int .i64 o.f0, .int .i64 o.f1, .int .i64 o.f2]] ?_
    refine (spec_l09Move.calls KM Ai ci_ p o.f0 o.f1 o.f2 m _ (Kd.C_below HP2.out HS.out.below) HP1.out HKM.out).mono ?_
    rintro e wA11 ⟨vA11, rfl, ho, hb⟩
    refine ⟨_, rfl, ?_⟩
    replace HS := A0_ (Sp.made' HS.out hb ho)
    clear hb ho
    obtain ⟨AA11, cA11, rfl⟩ := Sp.slice HS.out (i := 0) rfl
    refine hK.out _ _ (⟨(cl_ HS 3 0 rfl).trans rfl, pw_cell_below HS.out.below HP0.out, pw_cell_below HS.out.below HX0.out, pw_cell_below HS.out.below HX1.out, pw_cell_below HS.out.below HX2.out⟩) (fun hHeld => ?_)
    clear hK K
    refine nm_ (some 36) ?_
    refine o1_ 11 (some 37) (fun K hK => ?_)
    refine Kd.R_lit_step kSl _ 34 ?hg (N := 37) ?hd (xs := ([(AA11, (m).length, cA11)] : List Sl)) (inner := [.slice AA11 (m).length cA11]) (ok := fun _ => True) (okp := fun _ => True) ?hr ?hp (fun _ hk => hk) trivial (Below.refl _ _) (Nat.le_refl _) (by simp) ?_
    (case hd => rfl)
    (case hg => rfl)
    (case hr => first | (go_simp; done) | (go_simp; rfl))
    (case hp => exact (Reps.one rfl (Reps.none _ _)))
    intro vA12 wA12 ho hb hg_ hnew_
    clear hg_ hnew_
    replace HS := A0_ (Sp.made' HS.out hb ho)
    clear hb ho
    obtain ⟨AA12, cA12, eA_⟩ := Sp.slice HS.out (i := 0) rfl
    subst eA_
    refine hK.out _ _ (⟨(cl_ HS 4 0 rfl).trans rfl, pw_cell_below HS.out.below HP0.out, pw_cell_below HS.out.below HX0.out, pw_cell_below HS.out.below HX1.out, pw_cell_below HS.out.below HX2.out⟩) (fun hHeld => ?_)
    clear hK K
    refine nm_ (some 37) ?_
    refine o1_ 12 (some 38) (fun K hK => ?_)
    obtain ⟨fp_, ho_, hf_, hc_⟩ := Sp.row HS.out (i := 2) rfl
    refine Kd.R_append_rows_step kSl w.heap.size (by rfl) (.tmp 26) (.tmp 37) 28 34 (.slice none 0 0) 24 rfl Try.underlying28 info34 rfl (by decide) (by omega) _ (M.map Prod.fst) ([(AA11, (m).length, cA11)] : List Sl) _ _ _ _ (fun _ => False) rfl rfl ho_ (Sp.reads HS.out (i := 0) rfl).2.2 (fun _ _ h => h) (fun _ h => h.elim) (fun _ h => .inr h) HS.out.below HS.out.below.size ?aL ?_
    (case aL => have h1_ := HMN.out; simp only [List.length_cons, List.length_nil, List.length_map]; omega)
    intro vA13 wA13 ho hb hg hat
    replace HS := A0_ (hc_ _ _ _ ho hg)
    clear ho hb hg hat ho_ hf_ hc_ fp_
    obtain ⟨AA13, cA13, eA_⟩ := Sp.slice HS.out (i := 2) rfl
    subst eA_
    refine hK.out _ _ (⟨(cl_ HS 4 0 rfl).trans rfl, pw_cell_below HS.out.below HP0.out, pw_cell_below HS.out.below HX0.out, pw_cell_below HS.out.below HX1.out, pw_cell_below HS.out.below HX2.out⟩) (fun hHeld => ?_)
    clear hK K
    refine nm_ (some 38) ?_
    refine on_ 13 (some 7) ?_
    refine dn_ ?_
    replace HS := A0_ (Sp.arr (pre := [Res.row kSl 34 w.heap.size (.slice AA12 (([(AA11, (m).length, cA11)] : List Sl)).length cA12) (([(AA11, (m).length, cA11)] : List Sl)), Res.row kC 69 w.heap.size (.slice AA11 (m).length cA11) (m), Res.row kSl 34 w.heap.size (.slice AA13 ((M.map Prod.fst) ++ ([(AA11, (m).length, cA11)] : List Sl)).length cA13) ((M.map Prod.fst) ++ ([(AA11, (m).length, cA11)] : List Sl)), Res.row kC 69 w.heap.size (.slice Aa FL.length ca) FL, Res.blk ga #[.slice (some adp) parts.length cp] 32]) (pre' := [Res.row kC 69 w.heap.size (.slice AA11 (m).length cA11) (m), Res.row kSl 34 w.heap.size (.slice AA13 ((M.map Prod.fst) ++ ([(AA11, (m).length, cA11)] : List Sl)).length cA13) ((M.map Prod.fst) ++ ([(AA11, (m).length, cA11)] : List Sl)), Res.row kC 69 w.heap.size (.slice Aa FL.length ca) FL, Res.blk ga #[.slice (some adp) parts.length cp] 32, Res.row kSl 34 w.heap.size (.slice AA12 (([(AA11, (m).length, cA11)] : List Sl)).length cA12) (([(AA11, (m).length, cA11)] : List Sl))]) (rest := rowsOf w.heap.size M) [1, 2, 3, 4, 0] HS.out rfl rfl)
    have hl_ : (M.map Prod.fst ++ [((AA11, m.length, cA11) : Sl)]).length = M.length + 1 := by rw [List.length_append, List.length_map]; rfl
    have HS_ := Sp.out HS.out 4
    rw [hl_] at HS_
    clear HS hl_
    have HS : Aside0 (Sp w ([Res.row kC 69 w.heap.size (.slice AA11 m.length cA11) m, Res.row kSl 34 w.heap.size (.slice AA13 (M.length + 1) cA13) (M.map Prod.fst ++ [((AA11, m.length, cA11) : Sl)]), Res.row kC 69 w.heap.size (.slice Aa FL.length ca) FL, Res.blk ga #[.slice (some adp) parts.length cp] 32] ++ rowsOf w.heap.size M) wA13) := A0_ HS_
    clear HS_
    obtain ⟨adr, e_⟩ := Sp.some_ HS.out (i := 1) rfl (Nat.succ_pos _)
    subst e_
    have hxl := Sp.slCell HS.out (i := 1) rfl M.length (Nat.lt_succ_self _)
    rw [show (M.map Prod.fst ++ [((AA11, m.length, cA11) : Sl)]).getD M.length (none, 0, 0) = (AA11, m.length, cA11) by rw [List.getD_eq_getElem?_getD, List.getElem?_append_right (by rw [List.length_map]; exact Nat.le_refl _), List.length_map, Nat.sub_self]; rfl] at hxl
    replace hxl : (wA13).cell? (adr.add M.length) = some (.slice AA11 m.length cA11) := hxl
    have w1 : wrap64 ((M.length : Int) + 1 - 1) = (M.length : Int) := by have := HMN.out; unfold wrap64; omega
    have w2 : wrap64 (M.length : Int) = (M.length : Int) := by have := HMN.out; unfold wrap64; omega
    have w3 : (0 ≤ (M.length : Int)) = True := eq_true (by omega)
    have w4 : ((M.length : Int) < (M.length : Int) + 1) = True := eq_true (by omega)
    have w5 : (M.length < M.length + 1) = True := eq_true (by omega)
    have HFB := A0_ (show FL.length ≤ 1000 by rw [HFL.out, HX.out.2.2]; have h1_ := accR_flat parts offs part (fun p hp => (HSZ.out p hp).2) i (by have := HCI.out; have := HOL.out; omega); have h2_ := HCI.out; have h3_ := HOL.out; have h4_ := HN.out.2; omega)
    go_wp2_with (first
     | ((with_reducible refine gate_builtin (b := .append) (xs := #[.tmp 39, .tmp 45]) rfl ?_); at_builtin; obtain ⟨fp_, ho_, hf_, hc_⟩ := Sp.row HS.out (i := 2) rfl; refine Kd.R_append_rows kC (w0 := w) w.heap.size rfl (.tmp 39) (.tmp 45) 34 69 ((.agg #[(.int .i64 0), (.int .i64 0), (.int .i64 0)])) 24 rfl Try.underlying34 info69 rfl (by decide) (by omega) (.slice Aa FL.length ca) (FL) (m) _ _ _ _ (fun _ => False) rfl rfl ho_ ((Sp.reads HS.out (i := 0) rfl).2.2) (fun _ _ h => h) (fun _ h => h.elim) (fun _ h => Or.inr h) HS.out.below HS.out.below.size ?aL ?_; (case aL => have h1_ := HFB.out; have h2_ := HML.out; omega); intro va_ wa_ ho hb hg hat; replace HS := A0_ (hc_ _ _ _ ho hg); clear ho hb hg hat hc_ hf_ ho_ fp_; obtain ⟨A2, c2_, ev_⟩ := Sp.slice HS.out (i := 2) rfl; subst ev_; clear hxl))
    go_roundg k1
    case measure => omega
    case rel =>
     rw [HW.out]
     have hs1 : Sp w ([Res.row kSl 34 w.heap.size (.slice (some adr) (M.length + 1) cA13) (M.map Prod.fst ++ [((AA11, m.length, cA11) : Sl)]), Res.row kC 69 w.heap.size (.slice A2 (FL ++ m).length c2_) (FL ++ m), Res.blk ga #[.slice (some adp) parts.length cp] 32] ++ (rowsOf w.heap.size M ++ [Res.row kC 69 w.heap.size (.slice AA11 m.length cA11) m])) _ := Sp.toEnd HS.out
     have e1 : M.map Prod.fst ++ [((AA11, m.length, cA11) : Sl)] = (M ++ [((AA11, m.length, cA11), m)]).map Prod.fst := by rw [List.map_append]; rfl
     have e2 : FL ++ m = ((M ++ [(((AA11, m.length, cA11) : Sl), m)]).map Prod.snd).flatten := by rw [List.map_append, List.flatten_append, HFL.out]; simp
     have e3 : M.length + 1 = (M ++ [(((AA11, m.length, cA11) : Sl), m)]).length := by rw [List.length_append]; rfl
     rw [show rowsOf w.heap.size M ++ [Res.row kC 69 w.heap.size (.slice AA11 m.length cA11) m] = rowsOf w.heap.size (M ++ [((AA11, m.length, cA11), m)]) from (rowsOf_add w.heap.size M ((AA11, m.length, cA11), m)).symm, e1, e2, e3] at hs1
     exact ⟨i + 1, some adr, cA13, A2, c2_, M ++ [((AA11, m.length, cA11), m)], rfl, by rw [← e3], by rw [← e2, List.length_append], ⟨by have := HCI.out; omega, by have := HX.out; omega, by rw [HSK.out, List.map_append, HX.out.2.2]; rfl⟩, ⟨hs1⟩⟩
  ·have ci0 : decide (i < offs.length) = false := decide_eq_false ci
   have q1 : ((i : Int) < (offs.length : Int)) = False := eq_false (by omega)
   have q2 : (i < offs.length) = False := eq_false ci
   have hi : i = parts.length := by have := HX.out; have := HOL.out; omega
   have hms := HX.out.2.2
   rw [hi] at hms
   obtain ⟨rows, hrw⟩ : ∃ rows, rows = accR parts offs part parts.length := ⟨_, rfl⟩
   have hfl0 := accR_flat parts offs part (fun p hp => (HSZ.out p hp).2) parts.length (Nat.le_refl _)
   rw [← hrw] at HRO HRE hms hfl0
   have hml : M.length = rows.length := by rw [← hms, List.length_map]
   rw [hms, hml] at HS ⊢
   have HMS := A0_ hms
   have HFB := A0_ (show rows.flatten.length ≤ 1000 by have := HN.out.2; omega)
   have HFP := A0_ (flat_pos HRO.out)
   have HLS := A0_ (least_same rows HRO.out)
   obtain ⟨FL, hFL⟩ : ∃ FL, FL = rows.flatten := ⟨_, rfl⟩
   rw [← hFL] at HS HFB HFP HLS ⊢
   have HS_ := A0_ (Sp.out HS.out 2)
   clear HS
   have HS : Aside0 (Sp w ([Res.row kSl 34 w.heap.size (.slice Ar rows.length cr) (M.map Prod.fst), Res.row kC 69 w.heap.size (.slice Aa FL.length ca) FL] ++ rowsOf w.heap.size M) wr) := HS_
   clear HS_
   obtain ⟨adr, e_⟩ := Sp.some_ HS.out (i := 0) rfl HRO.out.1
   subst e_
   obtain ⟨ada, e_⟩ := Sp.some_ HS.out (i := 1) rfl HFP.out
   subst e_
   obtain ⟨hx0, hx1, hx2⟩ := Sp.cubeCell0 HS.out (i := 1) rfl HFP.out
   obtain ⟨a0, ha0⟩ : ∃ a0, a0 = cAt FL 0 := ⟨_, rfl⟩
   rw [← ha0] at hx0 hx1 hx2 HLS
   have p0 : (0 < FL.length) = True := eq_true HFP.out
   have p1 : ((0 : Int) < (FL.length : Int)) = True := eq_true (by have := HFP.out; omega)
   clear hi ci hms hrw hfl0 hml hFL ha0 HX HC HCP HO HCO HOL HN HSZ HPT
   go_wp2
   go_quiet (fail)
   have HS_ := A0_ (Sp.drewN HS.out nq)
   clear HS hx0 hx1 hx2
   have HS := HS_
   clear HS_
   go_wp2
   go_loopg [10, 11, 12, 13] (FL.length + 1) (fun kq v10 v11 v12 v13 w' => ∃ (i : Nat) (r : Cb), v13 = .int .i64 (i : Int) ∧ v10 = .int .i64 r.f0 ∧ v11 = .int .i64 r.f1 ∧ v12 = .int .i64 r.f2 ∧ Aside0 (1 ≤ i ∧ i ≤ FL.length ∧ kq + i = FL.length + 2 ∧ r = ((FL.take i).drop 1).foldl minC a0) ∧ Aside0 (Sp w ([Res.row kSl 34 w.heap.size (.slice (some adr) rows.length cr) (M.map Prod.fst), Res.row kC 69 w.heap.size (.slice (some ada) FL.length ca) FL] ++ rowsOf w.heap.size M) w'))
   case atStart => exact ⟨1, a0, rfl, rfl, rfl, rfl, ⟨by omega, by have := HFP.out; omega, by omega, by rw [List.drop_eq_nil_of_le (by rw [List.length_take]; omega)]; rfl⟩, HS⟩
   case round =>
    clear HS p0 p1
    obtain ⟨i, r, rfl, rfl, rfl, rfl, HX, HS⟩ := hrel
    obtain ⟨k1, rfl⟩ : ∃ k1, gk = k1 + 1 := ⟨gk - 1, by have := HX.out; omega⟩
    by_cases ci : i < FL.length
    ·have ci0 : decide (i < FL.length) = true := decide_eq_true ci
     have q0 : (0 ≤ (i : Int)) = True := eq_true (by omega)
     have q1 : ((i : Int) < (FL.length : Int)) = True := eq_true (by omega)
     have q2 : (i < FL.length) = True := eq_true ci
     have HW := A0_ (wrap_succ i (by have := HFB.out; omega))
     obtain ⟨hx0, hx1, hx2⟩ := Sp.cubeCell HS.out (i := 1) rfl i ci
     have HNX := A0_ (show ((FL.take (i + 1)).drop 1).foldl minC a0 = minC r (cAt FL i) by
      rw [List.take_succ_eq_append_getElem ci, List.drop_append_of_le_length (by rw [List.length_take]; have := HX.out.1; omega), List.foldl_append, ← HX.out.2.2.2, show cAt FL i = FL[i] from getD_at FL _ i ci]
      rfl)
     have HCI := A0_ ci
     obtain ⟨c, hc⟩ : ∃ c, c = cAt FL i := ⟨_, rfl⟩
     rw [← hc] at hx0 hx1 hx2 HNX
     clear ci hc
     go_wp2
     all_goals
      go_roundg k1
      case measure => omega
      case rel =>
       rw [HW.out]
       refine ⟨i + 1, minC r c, rfl, ?_, ?_, ?_, ⟨by omega, by have := HCI.out; omega, by have := HX.out; omega, HNX.out.symm⟩, HS⟩
       all_goals
        unfold minC
        simp only [*]
        first | rfl | (simp only [if_true, if_false]; done) | (congr 1; split <;> omega)
    ·have ci0 : decide (i < FL.length) = false := decide_eq_false ci
     have q1 : ((i : Int) < (FL.length : Int)) = False := eq_false (by omega)
     have q2 : (i < FL.length) = False := eq_false ci
     have hi : i = FL.length := by have := HX.out; omega
     have HQL := A0_ (show r = leastP rows by rw [HX.out.2.2.2, hi, List.take_length]; exact HLS.out.symm)
     clear ci hi HX
     go_wp2
     clear ci0 q1 q2
     have HMO := A0_ (rowsOk_mapK HRO.out r)
     have HML := A0_ (show M.length = rows.length by rw [← HMS.out, List.length_map])
     go_loopg [14] (rows.length + 1) (fun kq v14 w' => ∃ (i : Nat) (M2 : List (Sl × List Cb)), v14 = .int .i64 (i : Int) ∧ Aside0 (i ≤ rows.length ∧ kq + i = rows.length + 1 ∧ M2.map Prod.snd = mapK (downP r) rows i) ∧ Aside0 (Sp w ([Res.row kSl 34 w.heap.size (.slice (some adr) rows.length cr) (M2.map Prod.fst), Res.row kC 69 w.heap.size (.slice (some ada) FL.length ca) FL] ++ rowsOf w.heap.size M2) w'))
     case atStart => exact ⟨0, M, rfl, ⟨by omega, by omega, by rw [HMS.out]; rfl⟩, HS⟩
     case round =>
      clear HS
      obtain ⟨i, M2, rfl, HX, HS⟩ := hrel
      obtain ⟨k1, rfl⟩ : ∃ k1, gk = k1 + 1 := ⟨gk - 1, by have := HX.out; omega⟩
      by_cases ci : i < rows.length
      ·have ci0 : decide (i < rows.length) = true := decide_eq_true ci
       have q0 : (0 ≤ (i : Int)) = True := eq_true (by omega)
       have q1 : ((i : Int) < (rows.length : Int)) = True := eq_true (by omega)
       have q2 : (i < rows.length) = True := eq_true ci
       have HW := A0_ (wrap_succ i (by have := HRO.out.2.1; omega))
       have hm2 : M2.length = rows.length := by have := congrArg List.length HX.out.2.2; rwa [List.length_map, mapK_len] at this
       have hh := Sp.slCell HS.out (i := 0) rfl i ci
       obtain ⟨adi, cc, p, hm, hp, hsp⟩ := rows_at2 HS.out (HX.out.2.2.symm ▸ HMO.out i) i (by rw [hm2]; exact ci)
       rw [map_getD Prod.fst M2 i _ _ hm] at hh
       replace hh : wr.cell? (adr.add i) = some (.slice (some adi) p.length cc) := hh
       have hpr : rows[i] = p := by
        have h1 := mapK_at (downP r) rows i ci
        rw [← HX.out.2.2, List.getElem?_map, hm] at h1
        exact (Option.some.inj h1).symm
       obtain ⟨KM, hKM⟩ := (smove_ev p ⟨wrap64 (-r.f0), wrap64 (-r.f1), wrap64 (-r.f2)⟩ (by omega)).rounds
       obtain ⟨m, hmd⟩ : ∃ m, m = downP r p := ⟨_, rfl⟩
       rw [show (p.map fun c => addC c ⟨wrap64 (-r.f0), wrap64 (-r.f1), wrap64 (-r.f2)⟩) = m by rw [hmd]; unfold downP; exact List.map_congr_left (fun c _ => neg_add c r)] at hKM
       have HKM := A0_ hKM
       have HMI := A0_ hm
       have HSS := A0_ (show (M2.map Prod.snd).set i m = mapK (downP r) rows (i + 1) by rw [HX.out.2.2, hmd, ← hpr]; exact mapK_set (downP r) rows i ci)
       have HCI := A0_ (show i < M2.length by rw [hm2]; exact ci)
       have HCR := A0_ ci
       obtain ⟨RS, hRS⟩ : ∃ RS, RS = (rowsOf w.heap.size M2).eraseIdx i := ⟨_, rfl⟩
       rw [← hRS] at hsp
       have HRS := A0_ hRS
       clear HS
       have HS := A0_ hsp
       clear ci hm hp hRS hsp hpr hm2 hKM hmd
       go_wp2_with (first
        | (go_at_call 71; go_loud (refine (spec_l09Move.calls KM (some adi) cc p (wrap64 (-r.f0)) (wrap64 (-r.f1)) (wrap64 (-r.f2)) m _ (Sp.reads HS.out (i := 0) rfl).2.2 (Sp.reads HS.out (i := 0) rfl).2.1 HKM.out).mono ?_; rintro e wm_ ⟨vm_, rfl, ho_, hb_⟩; have HS_ := A0_ (Sp.out (Sp.made' HS.out hb_ ho_) 1); clear HS hb_ ho_ hh; have HS : Aside0 (Sp w ([Res.row kC 69 w.heap.size vm_ m, Res.row kSl 34 w.heap.size (.slice (some adr) rows.length cr) (M2.map Prod.fst), Res.row kC 69 w.heap.size (.slice (some ada) FL.length ca) FL] ++ RS) wm_) := HS_; clear HS_; obtain ⟨Am, cm, e_⟩ := Sp.slice HS.out (i := 0) rfl; subst e_))
        | ((with_reducible refine gate_store (t := 34) (p := 106) rfl ?_); go_loud (obtain ⟨w1_, hr_, hs_⟩ := Sp.slStore HS.out (i := 1) rfl i HCR.out (Am, m.length, cm); refine store_event rfl rfl rfl (exec_store (v := .pointer (some (adr.add i))) (u := .slice Am m.length cm) rfl ?hp ?hx hr_) ?_; (case hp => first | rfl | (go_simp; done) | (go_simp; rfl)); (case hx => first | rfl | (go_simp; done) | (go_simp; rfl)); intro ws_ hw_; rw [← hw_] at hs_; clear hr_ hw_ HS; have HS := A0_ hs_; clear hs_)))
       go_roundg k1
       case measure => omega
       case rel =>
        rw [HW.out]
        have hb : Sp w ([Res.row kC 69 w.heap.size (slV (Am, m.length, cm)) m, Res.row kSl 34 w.heap.size (.slice (some adr) rows.length cr) ((M2.map Prod.fst).set i (Am, m.length, cm)), Res.row kC 69 w.heap.size (.slice (some ada) FL.length ca) FL] ++ RS) _ := HS.out
        rw [HRS.out] at hb
        have hb2 := Sp.backRow HCI.out hb
        have e1 : (M2.map Prod.fst).set i (Am, m.length, cm) = (M2.set i ((Am, m.length, cm), m)).map Prod.fst := by rw [List.map_set]
        rw [e1] at hb2
        exact ⟨i + 1, M2.set i ((Am, m.length, cm), m), rfl, ⟨by have := HCR.out; omega, by have := HX.out; omega, by rw [List.map_set]; exact HSS.out⟩, ⟨hb2⟩⟩
      ·have ci0 : decide (i < rows.length) = false := decide_eq_false ci
       have q1 : ((i : Int) < (rows.length : Int)) = False := eq_false (by omega)
       have q2 : (i < rows.length) = False := eq_false ci
       have hi : i = rows.length := by have := HX.out; omega
       have HEN := A0_ (show M2.map Prod.snd = backP rows by rw [HX.out.2.2, hi, mapK_all, HQL.out]; rfl)
       clear ci hi
       go_wp2
       go_ret
       rw [HRE.out, ← HEN.out]
       have h1 := Sp.out HS.out 1
       refine ⟨_, rfl, Sp.joinRows (rs := []) ?_, HS.out.below⟩
       rw [List.append_nil]
       exact h1
end
end Go.Proofs.Ytlbckkagjekhnaa.A



namespace Go.Proofs.Ytlbckkagjekhnaa.A
open Go.RowKit Go.Proofs.YtlbckkagjekhnaaW.PrintWords Go.Proofs.YtlbckkagjekhnaaW.PrintLast Go.Proofs.YtlbckkagjekhnaaW.PrintMore
set_option linter.unusedVariables false
set_option linter.unusedSimpArgs false
section
attribute [local go_sem] max2_int min2_int max_two min_two max_three min_three max_four min_four
def laws_markInt64S.l0 : Nat → List Int → Int → Int → Option (Int × List Int)
  | 0, _, _, _ => none
  | k + 1, x0, x1, x5 => if x5 < (x0.length : Int) then (if 0 ≤ x5 then (laws_markInt64S.l0 k (x0.set (x5 : Int).toNat x1) (wrap64 (x1 + 1)) (wrap64 (x5 + 1))) else (none)) else (some (x1, x0))
def laws_markInt64S.f (k : Nat) (l0 : List Int) (a1 : Int) : Option (Int × List Int) := laws_markInt64S.l0 k l0 a1 0
set_option maxHeartbeats 8000000 in
set_option maxRecDepth 100000 in
theorem laws_markInt64S.calls (k : Nat) (P0_ : Nat → Prop) (u9000_ : Value) (l0 : List Int) (a1 : Int) (r1 : Int) (r2 : List Int) (w0 w : World) (hB : Below w0.heap.size w0 w) (ho0 : Kd.R (Kd.int .i64) 2 w w0.heap.size P0_ u9000_ l0) (h : laws_markInt64S.f k l0 a1 = some (r1, r2)) :
    Calls Try.prog 35 #[u9000_, .int .i64 a1] w fun e w' => e = .returned (.int .i64 r1) ∧ Kd.R (Kd.int .i64) 2 w' w0.heap.size (fun k_ => (P0_ k_ ∨ w.heap.size ≤ k_)) u9000_ r2 ∧ Below w0.heap.size w0 w' ∧ Kept w w' (fun k_ => P0_ k_) := by
 have HO0 := A0_ (show Kd.R (Kd.int .i64) 2 w w0.heap.size (fun k_ => (P0_ k_ ∨ w.heap.size ≤ k_)) u9000_ l0 from Kd.R_mono ho0 (fun k_ hk => (.inl hk)))
 have HK := A0_ (Kept.refl w (fun k_ => P0_ k_))
 (have HW0 := A0_ hB.size); (have HB := A0_ hB); clear hB; (have H : (laws_markInt64S.l0 k l0 a1 0) = some (r1, r2) := h); clear h; (have H' := A0_ H); clear H; (go_enter Try.func35, Try.ntmps35); go_wp2
 go_loopg [1, 5] k (fun kq v1 v5 w' => ∃ (x0_1 : List Int) (x1_1 : Int) (x5_1 : Int), v1 = .int .i64 x1_1 ∧ v5 = .int .i64 x5_1 ∧ Aside0 (laws_markInt64S.l0 kq x0_1 x1_1 x5_1 = some (r1, r2)) ∧ Aside0 (kq ≤ k) ∧ Aside0 (Kd.R (Kd.int .i64) 2 w' w0.heap.size (fun k_ => (P0_ k_ ∨ w.heap.size ≤ k_)) u9000_ x0_1) ∧ Aside0 (Kept w w' (fun k_ => P0_ k_)) ∧ Aside0 (Below w0.heap.size w0 w'))
 case atStart => exact ⟨(l0), (a1), (0), (by first | rfl | (simp; done) | (simp [*]; done)), (by first | rfl | (simp; done) | (simp [*]; done)), H', ⟨Nat.le_refl _⟩, ⟨by (with_reducible repeat (first | apply Ra_ | apply Rn_ | apply Rd_)); exact HO0.out⟩, ⟨by repeat (first | (with_reducible first | exact HK.out | apply Kept.alloc | apply Kept.drewN | apply Kept.drew) | exact HK.out)⟩, ⟨by repeat (first | (with_reducible first | exact HB.out | apply ba_ | apply bn_ | apply bd_) | exact HB.out)⟩⟩
 case round =>
  clear H'; (try clear p2); (obtain ⟨x0_1, x1_1, x5_1, rfl, rfl, HA, HK1, HO_0, HK, HB⟩ := hrel)
  cases gk with
  | zero => exact absurd HA.out (by simp [laws_markInt64S.l0])
  | succ k1 =>
   (have H := HA.out); clear HA; (simp only [laws_markInt64S.l0] at H); (by_cases c3 : x5_1 < (x0_1.length : Int))
   ·(rw [if_pos c3] at H); (have c3b0 : decide (x5_1 < (x0_1.length : Int)) = true := decide_eq_true c3); clear c3; (by_cases c4 : 0 ≤ x5_1)
    ·(rw [if_pos c4] at H); (have c4b0 : decide (0 ≤ x5_1) = true := decide_eq_true c4); clear c4; (obtain ⟨y605, hy605⟩ : ∃ y_ : List Int, y_ = (x0_1.set (x5_1 : Int).toNat x1_1) := ⟨_, rfl⟩); (replace H : (laws_markInt64S.l0 k1 y605 (wrap64 (x1_1 + 1)) (wrap64 (x5_1 + 1))) = some (r1, r2) := by first | (rw [hy605]; with_reducible exact H) | (have H2_ := (Option.bind_some _ _).symm.trans H; rw [hy605]; with_reducible exact H2_) | (have H2_ := (Option.bind_some _ _).symm.trans H; with_reducible exact H2_) | with_reducible exact H | (rw [hy605]; exact H) | exact H); (have Ny605 := A0_ hy605); clear hy605; (have H' := A0_ H); clear H; (obtain ⟨Ao6, co6, eo6⟩ := Kd.R_slice HO_0.out); subst eo6; (have p5 : 0 ≤ (x5_1 : Int) := of_decide_eq_true as_); (have q5 : (x5_1 : Int) < ((x0_1.length : Int) : Int) := of_decide_eq_true as_); (obtain ⟨go5, co5, eo5, gb5, gl5, cl5, HG5⟩ := Kd.R_form HO_0.out (by omega)); ((first | cases eo5 | (injection eo5 with ea_ en_ ec_; (first | subst ea_ | (injection ea_ with ea_; subst ea_)); subst ec_; clear en_))); (have GB5 := A0_ gb5); (have GG5 := A0_ HG5); clear gb5 gl5 HG5; (have HMgo5 := A0_ (show (P0_ go5 ∨ w.heap.size ≤ go5) from (HO_0.out.1 _ rfl))); (obtain ⟨hx5_0, hf5_0⟩ := Kd.R_celln 0 HO_0.out (x5_1 : Int) p5 q5); (replace p5 := eq_true p5); (replace q5 := eq_true q5); (have HP7 := Kd.R_putg HO_0.out (x5_1 : Int) x1_1)
     go_wp2_with (first | ((with_reducible refine gate_store (t := 2) (p := 15) rfl ?_); refine store_event (t := 2) (p := 15) (v := ?vo_w8) (w1 := (wr.setCell ⟨go5, (x5_1 : Int).toNat, none⟩ (.int .i64 x1_1))) ?hg ?ho ?hn ?hr ?_; (case ho => rfl); (case hg => rfl); (case hn => rfl); (case hr => first | (go_simp; done) | (go_simp; rfl)); intro w8 hw; have hg : wr.grownBy w8 (some go5) := (by rw [hw]; exact HP7.2); have hp_ : Kd.R (Kd.int .i64) 2 w8 w0.heap.size (fun k_ => (P0_ k_ ∨ w.heap.size ≤ k_)) (.slice (some ⟨go5, 0, none⟩) x0_1.length co6) y605 := (by rw [hw, Ny605.out]; exact HP7.1); clear HP7; have n0_ := A0_ (hp_); have n1_ := A0_ ((by rw [hw]; exact below_set (HB.out) GB5.out : Below w0.heap.size w0 w8)); have n2_ := A0_ (Kept.of_grown (S := (fun k_ => P0_ k_)) hg (by repeat (first | (with_reducible first | exact HK.out | apply Kept.alloc | apply Kept.drewN | apply Kept.drew) | exact HK.out)) (fun k_ e_ => (HO_0.out.1 k_ e_))); clear HO_0; clear HB; clear HK; have HO_0 := n0_; have HB := n1_; have HK := n2_; clear n0_ n1_ n2_; clear hg hw hp_))
     (go_roundg k1)
     case measure => have := HK1.out; omega
     case rel => exact ⟨(y605), (wrap64 (x1_1 + 1)), (wrap64 (x5_1 + 1)), (by first | rfl | (simp; done) | (simp [*]; done)), (by first | rfl | (simp; done) | (simp [*]; done)), H', ⟨by have := HK1.out; omega⟩, ⟨by (with_reducible repeat (first | apply Ra_ | apply Rn_ | apply Rd_)); exact HO_0.out⟩, ⟨by repeat (first | (with_reducible first | exact HK.out | apply Kept.alloc | apply Kept.drewN | apply Kept.drew) | exact HK.out)⟩, ⟨by repeat (first | (with_reducible first | exact HB.out | apply ba_ | apply bn_ | apply bd_) | exact HB.out)⟩⟩
    ·(rw [if_neg c4] at H); (exact absurd H (by simp))
   ·(rw [if_neg c3] at H); (have c3b0 : decide (x5_1 < (x0_1.length : Int)) = false := decide_eq_false c3); clear c3; (simp only [Option.some.injEq, Prod.mk.injEq] at H); (obtain ⟨rfl, rfl⟩ := H); (obtain ⟨Ao9, co9, eo9⟩ := Kd.R_slice HO_0.out); subst eo9; go_wp2; go_ret; (exact ⟨er_, by (with_reducible repeat (first | apply Ra_ | apply Rn_ | apply Rd_)); exact HO_0.out, by repeat (first | (with_reducible first | exact HB.out | apply ba_ | apply bn_ | apply bd_) | exact HB.out), by repeat (first | (with_reducible first | exact HK.out | apply Kept.alloc | apply Kept.drewN | apply Kept.drew) | exact HK.out)⟩)
end
section
attribute [local go_sem] max2_int min2_int max_two min_two max_three min_three max_four min_four
def laws_heldInt64S.l0 : Nat → List Int → Int → Int → Option (Int)
  | 0, _, _, _ => none
  | k + 1, x0, x1, x5 => if x5 < (x0.length : Int) then (if 0 ≤ x5 then (if (rd x0 x5) = x1 then (laws_heldInt64S.l0 k x0 (wrap64 (x1 + 1)) (wrap64 (x5 + 1))) else (some (-1))) else (none)) else (some x1)
def laws_heldInt64S.f (k : Nat) (l0 : List Int) (a1 : Int) : Option (Int) := laws_heldInt64S.l0 k l0 a1 0
set_option maxHeartbeats 8000000 in
set_option maxRecDepth 100000 in
theorem laws_heldInt64S.calls (k : Nat) (A0 : Option Addr) (c0 : Nat) (l0 : List Int) (a1 : Int) (r : Int) (w : World) (hr0 : Kd.C (Kd.int .i64) w A0 l0.length l0) (hc0 : l0.length ≤ c0) (h : laws_heldInt64S.f k l0 a1 = some r) :
    Calls Try.prog 36 #[.slice A0 l0.length c0, .int .i64 a1] w fun e w' => e = .returned (.int .i64 r) ∧ Drawn0 w w' := by
 (have HR0 := A0_ hr0); (have HC0 := A0_ hc0); clear hr0 hc0; (have H : (laws_heldInt64S.l0 k l0 a1 0) = some r := h); clear h; (have H' := A0_ H); clear H; (go_enter Try.func36, Try.ntmps36); go_wp2
 go_loopg [1, 5] k (fun kq v1 v5 w' => ∃ (x1_1 : Int) (x5_1 : Int), v1 = .int .i64 x1_1 ∧ v5 = .int .i64 x5_1 ∧ Aside0 (laws_heldInt64S.l0 kq l0 x1_1 x5_1 = some r) ∧ Aside0 (kq ≤ k) ∧ Drawn0 w w')
 case atStart => exact ⟨(a1), (0), (by first | rfl | (simp; done) | (simp [*]; done)), (by first | rfl | (simp; done) | (simp [*]; done)), H', ⟨Nat.le_refl _⟩, by repeat (first | exact Drawn0.refl _ | apply Drawn0.step)⟩
 case round =>
  clear H'; (try clear p2); (obtain ⟨x1_1, x5_1, rfl, rfl, HA, HK1, ⟨m1, rfl⟩⟩ := hrel)
  cases gk with
  | zero => exact absurd HA.out (by simp [laws_heldInt64S.l0])
  | succ k1 =>
   (have H := HA.out); clear HA; (simp only [laws_heldInt64S.l0] at H); (by_cases c3 : x5_1 < (l0.length : Int))
   ·(rw [if_pos c3] at H); (have c3b0 : decide (x5_1 < (l0.length : Int)) = true := decide_eq_true c3); clear c3; (by_cases c4 : 0 ≤ x5_1)
    ·(rw [if_pos c4] at H); (have c4b0 : decide (0 ≤ x5_1) = true := decide_eq_true c4); clear c4; (by_cases c5 : (rd l0 x5_1) = x1_1)
     ·(rw [if_pos c5] at H); (have c5b0 : ((rd l0 x5_1) == x1_1) = true := beq_iff_eq.mpr c5); (have c5b1 : ((rd l0 x5_1) != x1_1) = false := bne_eq_false_iff_eq.mpr c5); clear c5; (have H' := A0_ H); clear H; (have p606 : 0 ≤ (x5_1 : Int) := of_decide_eq_true as_); (have q606 : x5_1 < (l0.length : Int) := of_decide_eq_true as_); (obtain ⟨ad606, e606, hx606_0⟩ := Kd.at_int HR0.out x5_1 p606 q606); (cases e606); (replace p606 := eq_true p606); (replace q606 := eq_true q606); go_wp2; (go_roundg k1)
      case measure => have := HK1.out; omega
      case rel => exact ⟨(wrap64 (x1_1 + 1)), (wrap64 (x5_1 + 1)), (by first | rfl | (simp; done) | (simp [*]; done)), (by first | rfl | (simp; done) | (simp [*]; done)), H', ⟨by have := HK1.out; omega⟩, by repeat (first | exact Drawn0.refl _ | apply Drawn0.step)⟩
     ·(rw [if_neg c5] at H); (have c5b0 : ((rd l0 x5_1) == x1_1) = false := beq_eq_false_iff_ne.mpr c5); (have c5b1 : ((rd l0 x5_1) != x1_1) = true := bne_iff_ne.mpr c5); (obtain rfl := Option.some.inj H); (have p606 : 0 ≤ (x5_1 : Int) := of_decide_eq_true as_); (have q606 : x5_1 < (l0.length : Int) := of_decide_eq_true as_); (obtain ⟨ad606, e606, hx606_0⟩ := Kd.at_int HR0.out x5_1 p606 q606); (cases e606); (replace p606 := eq_true p606); (replace q606 := eq_true q606); go_wp2; go_ret; (exact ⟨by first | rfl | (simp; done) | (simp [*]; done), by repeat (first | exact Drawn0.refl _ | apply Drawn0.step)⟩)
    ·(rw [if_neg c4] at H); (exact absurd H (by simp))
   ·(rw [if_neg c3] at H); (have c3b0 : decide (x5_1 < (l0.length : Int)) = false := decide_eq_false c3); clear c3; (obtain rfl := Option.some.inj H); go_wp2; go_ret; (exact ⟨by first | rfl | (simp; done) | (simp [*]; done), by repeat (first | exact Drawn0.refl _ | apply Drawn0.step)⟩)
end
section
attribute [local go_sem] max2_int min2_int max_two min_two max_three min_three max_four min_four
def laws_eqInt64S.l0 : Nat → List Int → List Int → Int → Option (Bool)
  | 0, _, _, _ => none
  | k + 1, x0, x1, x5 => if x5 < (x0.length : Int) then (if 0 ≤ x5 then (if x5 < (x1.length : Int) then (if (rd x0 x5) = (rd x1 x5) then (laws_eqInt64S.l0 k x0 x1 (wrap64 (x5 + 1))) else (some false)) else (none)) else (none)) else (some true)
def laws_eqInt64S.f (k : Nat) (l0 : List Int) (l1 : List Int) : Option (Bool) := if (l0.length : Int) = (l1.length : Int) then (laws_eqInt64S.l0 k l0 l1 0) else (some false)
set_option maxHeartbeats 8000000 in
set_option maxRecDepth 100000 in
theorem laws_eqInt64S.calls (k : Nat) (A0 : Option Addr) (c0 : Nat) (l0 : List Int) (A1 : Option Addr) (c1 : Nat) (l1 : List Int) (r : Bool) (w : World) (hr0 : Kd.C (Kd.int .i64) w A0 l0.length l0) (hc0 : l0.length ≤ c0) (hr1 : Kd.C (Kd.int .i64) w A1 l1.length l1) (hc1 : l1.length ≤ c1) (h : laws_eqInt64S.f k l0 l1 = some r) :
    Calls Try.prog 34 #[.slice A0 l0.length c0, .slice A1 l1.length c1] w fun e w' => e = .returned (.bool r) ∧ Drawn0 w w' := by
 (have HR0 := A0_ hr0); (have HC0 := A0_ hc0); clear hr0 hc0; (have HR1 := A0_ hr1); (have HC1 := A0_ hc1); clear hr1 hc1; (have H : (if (l0.length : Int) = (l1.length : Int) then (laws_eqInt64S.l0 k l0 l1 0) else (some false)) = some r := h); clear h; (by_cases c3 : (l0.length : Int) = (l1.length : Int))
 ·(rw [if_pos c3] at H); (have c3b0 : ((l0.length : Int) == (l1.length : Int)) = true := beq_iff_eq.mpr c3); (have c3b1 : ((l0.length : Int) != (l1.length : Int)) = false := bne_eq_false_iff_eq.mpr c3); (have c3b2 : (l0.length == l1.length) = true := by first | simpa using c3 | (simp at c3 ⊢; omega)); clear c3; (have H' := A0_ H); clear H; (go_enter Try.func34, Try.ntmps34); go_wp2; (repeat (go_quiet (fail); try go_wp2))
  go_loopg [5] k (fun kq v5 w' => ∃ (x5_1 : Int), v5 = .int .i64 x5_1 ∧ Aside0 (laws_eqInt64S.l0 kq l0 l1 x5_1 = some r) ∧ Aside0 (kq ≤ k) ∧ Drawn0 w w')
  case atStart => exact ⟨(0), (by first | rfl | (simp; done) | (simp [*]; done)), H', ⟨Nat.le_refl _⟩, by repeat (first | exact Drawn0.refl _ | apply Drawn0.step)⟩
  case round =>
   clear H'; (try clear c1); (try clear p2); (try clear c3); (try clear c3b0); (try clear c3b1); (try clear c3b2); (obtain ⟨x5_1, rfl, HA, HK1, ⟨m1, rfl⟩⟩ := hrel)
   cases gk with
   | zero => exact absurd HA.out (by simp [laws_eqInt64S.l0])
   | succ k1 =>
    (have H := HA.out); clear HA; (simp only [laws_eqInt64S.l0] at H); (by_cases c4 : x5_1 < (l0.length : Int))
    ·(rw [if_pos c4] at H); (have c4b0 : decide (x5_1 < (l0.length : Int)) = true := decide_eq_true c4); clear c4; (by_cases c5 : 0 ≤ x5_1)
     ·(rw [if_pos c5] at H); (have c5b0 : decide (0 ≤ x5_1) = true := decide_eq_true c5); clear c5; (by_cases c6 : x5_1 < (l1.length : Int))
      ·(rw [if_pos c6] at H); (have c6b0 : decide (x5_1 < (l1.length : Int)) = true := decide_eq_true c6); clear c6; (by_cases c7 : (rd l0 x5_1) = (rd l1 x5_1))
       ·(rw [if_pos c7] at H); (have c7b0 : ((rd l0 x5_1) == (rd l1 x5_1)) = true := beq_iff_eq.mpr c7); (have c7b1 : ((rd l0 x5_1) != (rd l1 x5_1)) = false := bne_eq_false_iff_eq.mpr c7); clear c7; (have H' := A0_ H); clear H; (have p579 : 0 ≤ (x5_1 : Int) := of_decide_eq_true as_); (have q579 : x5_1 < (l0.length : Int) := of_decide_eq_true as_); (obtain ⟨ad579, e579, hx579_0⟩ := Kd.at_int HR0.out x5_1 p579 q579); (cases e579); (replace p579 := eq_true p579); (replace q579 := eq_true q579); (have p580 : 0 ≤ (x5_1 : Int) := of_decide_eq_true as_); (have q580 : x5_1 < (l1.length : Int) := of_decide_eq_true as_); (obtain ⟨ad580, e580, hx580_0⟩ := Kd.at_int HR1.out x5_1 p580 q580); (cases e580); (replace p580 := eq_true p580); (replace q580 := eq_true q580); go_wp2; (repeat (go_quiet (fail); try go_wp2)); (go_roundg k1)
        case measure => have := HK1.out; omega
        case rel => exact ⟨(wrap64 (x5_1 + 1)), (by first | rfl | (simp; done) | (simp [*]; done)), H', ⟨by have := HK1.out; omega⟩, by repeat (first | exact Drawn0.refl _ | apply Drawn0.step)⟩
       ·(rw [if_neg c7] at H); (have c7b0 : ((rd l0 x5_1) == (rd l1 x5_1)) = false := beq_eq_false_iff_ne.mpr c7); (have c7b1 : ((rd l0 x5_1) != (rd l1 x5_1)) = true := bne_iff_ne.mpr c7); (obtain rfl := Option.some.inj H); (have p579 : 0 ≤ (x5_1 : Int) := of_decide_eq_true as_); (have q579 : x5_1 < (l0.length : Int) := of_decide_eq_true as_); (obtain ⟨ad579, e579, hx579_0⟩ := Kd.at_int HR0.out x5_1 p579 q579); (cases e579); (replace p579 := eq_true p579); (replace q579 := eq_true q579); (have p580 : 0 ≤ (x5_1 : Int) := of_decide_eq_true as_); (have q580 : x5_1 < (l1.length : Int) := of_decide_eq_true as_); (obtain ⟨ad580, e580, hx580_0⟩ := Kd.at_int HR1.out x5_1 p580 q580); (cases e580); (replace p580 := eq_true p580); (replace q580 := eq_true q580); go_wp2; (repeat (go_quiet (fail); try go_wp2)); go_ret; (exact ⟨by first | rfl | (simp; done) | (simp [*]; done), by repeat (first | exact Drawn0.refl _ | apply Drawn0.step)⟩)
      ·(rw [if_neg c6] at H); (exact absurd H (by simp))
     ·(rw [if_neg c5] at H); (exact absurd H (by simp))
    ·(rw [if_neg c4] at H); (have c4b0 : decide (x5_1 < (l0.length : Int)) = false := decide_eq_false c4); clear c4; (obtain rfl := Option.some.inj H); go_wp2; (repeat (go_quiet (fail); try go_wp2)); go_ret; (exact ⟨by first | rfl | (simp; done) | (simp [*]; done), by repeat (first | exact Drawn0.refl _ | apply Drawn0.step)⟩)
 ·(rw [if_neg c3] at H); (have c3b0 : ((l0.length : Int) == (l1.length : Int)) = false := beq_eq_false_iff_ne.mpr c3); (have c3b1 : ((l0.length : Int) != (l1.length : Int)) = true := bne_iff_ne.mpr c3); (have c3b2 : (l0.length == l1.length) = false := by first | simpa using c3 | (simp at c3 ⊢; omega)); (obtain rfl := Option.some.inj H); (go_enter Try.func34, Try.ntmps34); go_wp2; (repeat (go_quiet (fail); try go_wp2)); go_ret; (exact ⟨by first | rfl | (simp; done) | (simp [*]; done), by repeat (first | exact Drawn0.refl _ | apply Drawn0.step)⟩)
end
section
attribute [local go_sem] max2_int min2_int max_two min_two max_three min_three max_four min_four
def laws_markCubeS.l0 : Nat → List (S69) → Int → Int → Option (Int × (List (S69)))
  | 0, _, _, _ => none
  | k + 1, x0, x1, x5 => if x5 < (x0.length : Int) then (if 0 ≤ x5 then ((some (x0.set (x5 : Int).toNat (⟨x1, (rd_T69 x0 x5).f1, (rd_T69 x0 x5).f2⟩ : S69) : List (S69))).bind fun y332 => ((some (y332.set (x5 : Int).toNat (⟨(rd_T69 y332 x5).f0, wrap64 (x1 + 1), (rd_T69 y332 x5).f2⟩ : S69) : List (S69))).bind fun y333 => (laws_markCubeS.l0 k (y333.set (x5 : Int).toNat (⟨(rd_T69 y333 x5).f0, (rd_T69 y333 x5).f1, wrap64 ((wrap64 (x1 + 1)) + 1)⟩ : S69)) (wrap64 ((wrap64 ((wrap64 (x1 + 1)) + 1)) + 1)) (wrap64 (x5 + 1))))) else (none)) else (some (x1, x0))
def laws_markCubeS.f (k : Nat) (l0 : List (S69)) (a1 : Int) : Option (Int × (List (S69))) := laws_markCubeS.l0 k l0 a1 0
set_option maxHeartbeats 8000000 in
set_option maxRecDepth 100000 in
theorem laws_markCubeS.calls (k : Nat) (P0_ : Nat → Prop) (u9000_ : Value) (l0 : List (S69)) (a1 : Int) (r1 : Int) (r2 : List (S69)) (w0 w : World) (hB : Below w0.heap.size w0 w) (ho0 : Kd.R k69 69 w w0.heap.size P0_ u9000_ l0) (h : laws_markCubeS.f k l0 a1 = some (r1, r2)) :
    Calls Try.prog 20 #[u9000_, .int .i64 a1] w fun e w' => e = .returned (.int .i64 r1) ∧ Kd.R k69 69 w' w0.heap.size (fun k_ => (P0_ k_ ∨ w.heap.size ≤ k_)) u9000_ r2 ∧ Below w0.heap.size w0 w' ∧ Kept w w' (fun k_ => P0_ k_) := by
 have HO0 := A0_ (show Kd.R k69 69 w w0.heap.size (fun k_ => (P0_ k_ ∨ w.heap.size ≤ k_)) u9000_ l0 from Kd.R_mono ho0 (fun k_ hk => (.inl hk)))
 have HK := A0_ (Kept.refl w (fun k_ => P0_ k_))
 (have HW0 := A0_ hB.size); (have HB := A0_ hB); clear hB; (have H : (laws_markCubeS.l0 k l0 a1 0) = some (r1, r2) := h); clear h; (have H' := A0_ H); clear H; (go_enter Try.func20, Try.ntmps20); go_wp2
 go_loopg [1, 5] k (fun kq v1 v5 w' => ∃ (x0_1 : List (S69)) (x1_1 : Int) (x5_1 : Int), v1 = .int .i64 x1_1 ∧ v5 = .int .i64 x5_1 ∧ Aside0 (laws_markCubeS.l0 kq x0_1 x1_1 x5_1 = some (r1, r2)) ∧ Aside0 (kq ≤ k) ∧ Aside0 (Kd.R k69 69 w' w0.heap.size (fun k_ => (P0_ k_ ∨ w.heap.size ≤ k_)) u9000_ x0_1) ∧ Aside0 (Kept w w' (fun k_ => P0_ k_)) ∧ Aside0 (Below w0.heap.size w0 w'))
 case atStart => exact ⟨(l0), (a1), (0), (by first | rfl | (simp; done) | (simp [*]; done)), (by first | rfl | (simp; done) | (simp [*]; done)), H', ⟨Nat.le_refl _⟩, ⟨by (with_reducible repeat (first | apply Ra_ | apply Rn_ | apply Rd_)); exact HO0.out⟩, ⟨by repeat (first | (with_reducible first | exact HK.out | apply Kept.alloc | apply Kept.drewN | apply Kept.drew) | exact HK.out)⟩, ⟨by repeat (first | (with_reducible first | exact HB.out | apply ba_ | apply bn_ | apply bd_) | exact HB.out)⟩⟩
 case round =>
  clear H'; (try clear c2); (try clear p2); (obtain ⟨x0_1, x1_1, x5_1, rfl, rfl, HA, HK1, HO_0, HK, HB⟩ := hrel)
  cases gk with
  | zero => exact absurd HA.out (by simp [laws_markCubeS.l0])
  | succ k1 =>
   (have H := HA.out); clear HA; (simp only [laws_markCubeS.l0] at H); (by_cases c3 : x5_1 < (x0_1.length : Int))
   ·(rw [if_pos c3] at H); (have c3b0 : decide (x5_1 < (x0_1.length : Int)) = true := decide_eq_true c3); clear c3; (by_cases c4 : 0 ≤ x5_1)
    ·(rw [if_pos c4] at H); (have c4b0 : decide (0 ≤ x5_1) = true := decide_eq_true c4); clear c4; (obtain ⟨y332, hy332⟩ : ∃ y_ : List (S69), y_ = (x0_1.set (x5_1 : Int).toNat (⟨x1_1, (rd_T69 x0_1 x5_1).f1, (rd_T69 x0_1 x5_1).f2⟩ : S69)) := ⟨_, rfl⟩)
     replace H : ((some (y332.set (x5_1 : Int).toNat (⟨(rd_T69 y332 x5_1).f0, wrap64 (x1_1 + 1), (rd_T69 y332 x5_1).f2⟩ : S69) : List (S69))).bind fun y333 => (laws_markCubeS.l0 k1 (y333.set (x5_1 : Int).toNat (⟨(rd_T69 y333 x5_1).f0, (rd_T69 y333 x5_1).f1, wrap64 ((wrap64 (x1_1 + 1)) + 1)⟩ : S69)) (wrap64 ((wrap64 ((wrap64 (x1_1 + 1)) + 1)) + 1)) (wrap64 (x5_1 + 1)))) = some (r1, r2) := by first | (rw [hy332]; with_reducible exact H) | (have H2_ := (Option.bind_some _ _).symm.trans H; rw [hy332]; with_reducible exact H2_) | (have H2_ := (Option.bind_some _ _).symm.trans H; with_reducible exact H2_) | with_reducible exact H | (rw [hy332]; exact H) | exact H
     (have Ny332 := A0_ hy332); clear hy332; (obtain ⟨y333, hy333⟩ : ∃ y_ : List (S69), y_ = (y332.set (x5_1 : Int).toNat (⟨(rd_T69 y332 x5_1).f0, wrap64 (x1_1 + 1), (rd_T69 y332 x5_1).f2⟩ : S69)) := ⟨_, rfl⟩); (replace H : (laws_markCubeS.l0 k1 (y333.set (x5_1 : Int).toNat (⟨(rd_T69 y333 x5_1).f0, (rd_T69 y333 x5_1).f1, wrap64 ((wrap64 (x1_1 + 1)) + 1)⟩ : S69)) (wrap64 ((wrap64 ((wrap64 (x1_1 + 1)) + 1)) + 1)) (wrap64 (x5_1 + 1))) = some (r1, r2) := by first | (rw [hy333]; with_reducible exact H) | (have H2_ := (Option.bind_some _ _).symm.trans H; rw [hy333]; with_reducible exact H2_) | (have H2_ := (Option.bind_some _ _).symm.trans H; with_reducible exact H2_) | with_reducible exact H | (rw [hy333]; exact H) | exact H); (have Ny333 := A0_ hy333); clear hy333; (obtain ⟨y334, hy334⟩ : ∃ y_ : List (S69), y_ = (y333.set (x5_1 : Int).toNat (⟨(rd_T69 y333 x5_1).f0, (rd_T69 y333 x5_1).f1, wrap64 ((wrap64 (x1_1 + 1)) + 1)⟩ : S69)) := ⟨_, rfl⟩); (replace H : (laws_markCubeS.l0 k1 y334 (wrap64 ((wrap64 ((wrap64 (x1_1 + 1)) + 1)) + 1)) (wrap64 (x5_1 + 1))) = some (r1, r2) := by first | (rw [hy334]; with_reducible exact H) | (have H2_ := (Option.bind_some _ _).symm.trans H; rw [hy334]; with_reducible exact H2_) | (have H2_ := (Option.bind_some _ _).symm.trans H; with_reducible exact H2_) | with_reducible exact H | (rw [hy334]; exact H) | exact H); (have Ny334 := A0_ hy334); clear hy334; (have H' := A0_ H); clear H; (obtain ⟨Ao8, co8, eo8⟩ := Kd.R_slice HO_0.out); subst eo8; (have p5 : 0 ≤ (x5_1 : Int) := of_decide_eq_true as_); (have q5 : (x5_1 : Int) < ((x0_1.length : Int) : Int) := of_decide_eq_true as_); (obtain ⟨go5, co5, eo5, gb5, gl5, cl5, HG5⟩ := Kd.R_form HO_0.out (by omega)); ((first | cases eo5 | (injection eo5 with ea_ en_ ec_; (first | subst ea_ | (injection ea_ with ea_; subst ea_)); subst ec_; clear en_))); (have GB5 := A0_ gb5); (have GG5 := A0_ HG5); clear gb5 gl5 HG5; (have HMgo5 := A0_ (show (P0_ go5 ∨ w.heap.size ≤ go5) from (HO_0.out.1 _ rfl))); (obtain ⟨ce5, hcl5, hM5, hcc5, hfr5⟩ := Kd.R_elem HO_0.out z69 (x5_1 : Int) p5 q5); (obtain rfl := k69_openM hM5); (have hx5_0 : wr.cell? ⟨go5, (x5_1 : Int).toNat * 3, none⟩ = some (.int .i64 ((rd_T69 x0_1 x5_1).f0)) := hcc5 0 _ rfl); (have hx5_1 : wr.cell? ⟨go5, (x5_1 : Int).toNat * 3 + 1, none⟩ = some (.int .i64 ((rd_T69 x0_1 x5_1).f1)) := hcc5 1 _ rfl); (have hx5_2 : wr.cell? ⟨go5, (x5_1 : Int).toNat * 3 + 2, none⟩ = some (.int .i64 ((rd_T69 x0_1 x5_1).f2)) := hcc5 2 _ rfl); (have hf5_0 : wr.frozen? ⟨go5, (x5_1 : Int).toNat * 3, none⟩ = false := hfr5 0); (have hf5_1 : wr.frozen? ⟨go5, (x5_1 : Int).toNat * 3 + 1, none⟩ = false := hfr5 1); (have hf5_2 : wr.frozen? ⟨go5, (x5_1 : Int).toNat * 3 + 2, none⟩ = false := hfr5 2); clear hcl5 hcc5 hfr5 hM5; (replace p5 := eq_true p5); (replace q5 := eq_true q5)
     have HX9 := A0_ (show Kd.R k69 69 wr w0.heap.size (fun k_ => (P0_ k_ ∨ w.heap.size ≤ k_)) (.slice (some ⟨go5, 0, none⟩) x0_1.length co8) x0_1 from (by (with_reducible repeat (first | apply Ra_ | apply Rn_ | apply Rd_)); exact HO_0.out))
     (obtain ⟨ce9, hcl9, hM9, hcc9, hfr9⟩ := Kd.R_elem HX9.out z69 (x5_1 : Int) (of_decide_eq_true as_) (by have h_ : (x5_1 : Int) < ((x0_1.length : Int) : Int) := of_decide_eq_true as_; first | exact h_ | (have e_ := (Kd.R_reads' HO_0.out).1; omega) | simpa using h_)); (obtain rfl := k69_openM hM9)
     have HP9 := Kd.R_seg HX9.out (x5_1 : Int) (of_decide_eq_true as_) (by have h_ : (x5_1 : Int) < ((x0_1.length : Int) : Int) := of_decide_eq_true as_; first | exact h_ | (have e_ := (Kd.R_reads' HO_0.out).1; omega) | simpa using h_) (seg := [.int .i64 x1_1]) (j := 0) hcl9 hcc9 (show 1 ≤ 3 from by decide) (x' := (⟨x1_1, (rd_T69 x0_1 x5_1).f1, (rd_T69 x0_1 x5_1).f2⟩ : S69)) (k69_mkM _ _ _ (⟨x1_1, (rd_T69 x0_1 x5_1).f1, (rd_T69 x0_1 x5_1).f2⟩ : S69) ) (fun _ hk => hk)
     (have hx9_0 := hcc9 0 _ rfl); ((try simp only [show (k69).sz = 3 from rfl, Nat.mul_one, Nat.add_zero] at hx9_0)); (have hf9_0 := hfr9 0); ((try simp only [show (k69).sz = 3 from rfl, Nat.mul_one, Nat.add_zero] at hf9_0)); clear hcl9 hcc9 hfr9 hM9
     go_wp2_with (first | ((with_reducible refine gate_store (t := 2) (p := 16) rfl ?_); refine store_event (t := 2) (p := 16) (v := ?vo_w10) (w1 := (wr.setCell ⟨go5, (x5_1 : Int).toNat * 3, none⟩ (.int .i64 x1_1))) ?hg ?ho ?hn ?hr ?_; (case ho => rfl); (case hg => rfl); (case hn => rfl); (case hr => first | (go_simp; done) | (go_simp; rfl)); intro w10 hw; have hg : wr.grownBy w10 (some go5) := (by rw [hw]; exact HP9.2); have hp_ : Kd.R k69 69 w10 w0.heap.size (fun k_ => (P0_ k_ ∨ w.heap.size ≤ k_)) (.slice (some ⟨go5, 0, none⟩) x0_1.length co8) y332 := (by rw [hw, Ny332.out]; exact HP9.1); clear HP9; have n0_ := A0_ (hp_); have n1_ := A0_ ((by rw [hw]; exact below_set (HB.out) GB5.out : Below w0.heap.size w0 w10)); have n2_ := A0_ (Kept.of_grown (S := (fun k_ => P0_ k_)) hg (by repeat (first | (with_reducible first | exact HK.out | apply Kept.alloc | apply Kept.drewN | apply Kept.drew) | exact HK.out)) (fun k_ e_ => (HO_0.out.1 k_ e_))); clear HO_0; clear HB; clear HK; have HO_0 := n0_; have HB := n1_; have HK := n2_; clear n0_ n1_ n2_; clear hg hw hp_; have p6 : 0 ≤ (x5_1 : Int) := of_decide_eq_true as_; have q6 : (x5_1 : Int) < ((x0_1.length : Int) : Int) := of_decide_eq_true as_; obtain ⟨ce6, hcl6, hM6, hcc6, hfr6⟩ := Kd.R_elem HO_0.out z69 (x5_1 : Int) p6 q6; obtain rfl := k69_openM hM6; have hx6_0 : w10.cell? ⟨go5, (x5_1 : Int).toNat * 3, none⟩ = some (.int .i64 ((rd_T69 y332 x5_1).f0)) := hcc6 0 _ rfl; have hx6_1 : w10.cell? ⟨go5, (x5_1 : Int).toNat * 3 + 1, none⟩ = some (.int .i64 ((rd_T69 y332 x5_1).f1)) := hcc6 1 _ rfl; have hx6_2 : w10.cell? ⟨go5, (x5_1 : Int).toNat * 3 + 2, none⟩ = some (.int .i64 ((rd_T69 y332 x5_1).f2)) := hcc6 2 _ rfl; have hf6_0 : w10.frozen? ⟨go5, (x5_1 : Int).toNat * 3, none⟩ = false := hfr6 0; have hf6_1 : w10.frozen? ⟨go5, (x5_1 : Int).toNat * 3 + 1, none⟩ = false := hfr6 1; have hf6_2 : w10.frozen? ⟨go5, (x5_1 : Int).toNat * 3 + 2, none⟩ = false := hfr6 2; clear hcl6 hcc6 hfr6 hM6; replace p6 := eq_true p6; replace q6 := eq_true q6; have HX11 := A0_ (show Kd.R k69 69 w10 w0.heap.size (fun k_ => (P0_ k_ ∨ w.heap.size ≤ k_)) (.slice (some ⟨go5, 0, none⟩) x0_1.length co8) y332 from (by (with_reducible repeat (first | apply Ra_ | apply Rn_ | apply Rd_)); exact HO_0.out)); obtain ⟨ce11, hcl11, hM11, hcc11, hfr11⟩ := Kd.R_elem HX11.out z69 (x5_1 : Int) (of_decide_eq_true as_) (by have h_ : (x5_1 : Int) < ((x0_1.length : Int) : Int) := of_decide_eq_true as_; first | exact h_ | (have e_ := (Kd.R_reads' HO_0.out).1; omega) | simpa using h_); obtain rfl := k69_openM hM11; have HP11 := Kd.R_seg HX11.out (x5_1 : Int) (of_decide_eq_true as_) (by have h_ : (x5_1 : Int) < ((x0_1.length : Int) : Int) := of_decide_eq_true as_; first | exact h_ | (have e_ := (Kd.R_reads' HO_0.out).1; omega) | simpa using h_) (seg := [.int .i64 (wrap64 (x1_1 + 1))]) (j := 1) hcl11 hcc11 (show 2 ≤ 3 from by decide) (x' := (⟨(rd_T69 y332 x5_1).f0, wrap64 (x1_1 + 1), (rd_T69 y332 x5_1).f2⟩ : S69)) (k69_mkM _ _ _ (⟨(rd_T69 y332 x5_1).f0, wrap64 (x1_1 + 1), (rd_T69 y332 x5_1).f2⟩ : S69) ) (fun _ hk => hk); have hx11_1 := hcc11 1 _ rfl; (try simp only [show (k69).sz = 3 from rfl, Nat.mul_one, Nat.add_zero] at hx11_1); have hf11_1 := hfr11 1; (try simp only [show (k69).sz = 3 from rfl, Nat.mul_one, Nat.add_zero] at hf11_1); clear hcl11 hcc11 hfr11 hM11) | ((with_reducible refine gate_store (t := 2) (p := 23) rfl ?_); refine store_event (t := 2) (p := 23) (v := ?vo_w12) (w1 := (w10.setCell ⟨go5, (x5_1 : Int).toNat * 3 + 1, none⟩ (.int .i64 (wrap64 (x1_1 + 1))))) ?hg ?ho ?hn ?hr ?_; (case ho => rfl); (case hg => rfl); (case hn => rfl); (case hr => first | (go_simp; done) | (go_simp; rfl)); intro w12 hw; have hg : w10.grownBy w12 (some go5) := (by rw [hw]; exact HP11.2); have hp_ : Kd.R k69 69 w12 w0.heap.size (fun k_ => (P0_ k_ ∨ w.heap.size ≤ k_)) (.slice (some ⟨go5, 0, none⟩) x0_1.length co8) y333 := (by rw [hw, Ny333.out]; exact HP11.1); clear HP11; have n0_ := A0_ (hp_); have n1_ := A0_ ((by rw [hw]; exact below_set (HB.out) GB5.out : Below w0.heap.size w0 w12)); have n2_ := A0_ (Kept.of_grown (S := (fun k_ => P0_ k_)) hg (by repeat (first | (with_reducible first | exact HK.out | apply Kept.alloc | apply Kept.drewN | apply Kept.drew) | exact HK.out)) (fun k_ e_ => (HO_0.out.1 k_ e_))); clear HO_0; clear HB; clear HK; have HO_0 := n0_; have HB := n1_; have HK := n2_; clear n0_ n1_ n2_; clear hg hw hp_; have p7 : 0 ≤ (x5_1 : Int) := of_decide_eq_true as_; have q7 : (x5_1 : Int) < ((x0_1.length : Int) : Int) := of_decide_eq_true as_; obtain ⟨ce7, hcl7, hM7, hcc7, hfr7⟩ := Kd.R_elem HO_0.out z69 (x5_1 : Int) p7 q7; obtain rfl := k69_openM hM7; have hx7_0 : w12.cell? ⟨go5, (x5_1 : Int).toNat * 3, none⟩ = some (.int .i64 ((rd_T69 y333 x5_1).f0)) := hcc7 0 _ rfl; have hx7_1 : w12.cell? ⟨go5, (x5_1 : Int).toNat * 3 + 1, none⟩ = some (.int .i64 ((rd_T69 y333 x5_1).f1)) := hcc7 1 _ rfl; have hx7_2 : w12.cell? ⟨go5, (x5_1 : Int).toNat * 3 + 2, none⟩ = some (.int .i64 ((rd_T69 y333 x5_1).f2)) := hcc7 2 _ rfl; have hf7_0 : w12.frozen? ⟨go5, (x5_1 : Int).toNat * 3, none⟩ = false := hfr7 0; have hf7_1 : w12.frozen? ⟨go5, (x5_1 : Int).toNat * 3 + 1, none⟩ = false := hfr7 1; have hf7_2 : w12.frozen? ⟨go5, (x5_1 : Int).toNat * 3 + 2, none⟩ = false := hfr7 2; clear hcl7 hcc7 hfr7 hM7; replace p7 := eq_true p7; replace q7 := eq_true q7; have HX13 := A0_ (show Kd.R k69 69 w12 w0.heap.size (fun k_ => (P0_ k_ ∨ w.heap.size ≤ k_)) (.slice (some ⟨go5, 0, none⟩) x0_1.length co8) y333 from (by (with_reducible repeat (first | apply Ra_ | apply Rn_ | apply Rd_)); exact HO_0.out)); obtain ⟨ce13, hcl13, hM13, hcc13, hfr13⟩ := Kd.R_elem HX13.out z69 (x5_1 : Int) (of_decide_eq_true as_) (by have h_ : (x5_1 : Int) < ((x0_1.length : Int) : Int) := of_decide_eq_true as_; first | exact h_ | (have e_ := (Kd.R_reads' HO_0.out).1; omega) | simpa using h_); obtain rfl := k69_openM hM13; have HP13 := Kd.R_seg HX13.out (x5_1 : Int) (of_decide_eq_true as_) (by have h_ : (x5_1 : Int) < ((x0_1.length : Int) : Int) := of_decide_eq_true as_; first | exact h_ | (have e_ := (Kd.R_reads' HO_0.out).1; omega) | simpa using h_) (seg := [.int .i64 (wrap64 ((wrap64 (x1_1 + 1)) + 1))]) (j := 2) hcl13 hcc13 (show 3 ≤ 3 from by decide) (x' := (⟨(rd_T69 y333 x5_1).f0, (rd_T69 y333 x5_1).f1, wrap64 ((wrap64 (x1_1 + 1)) + 1)⟩ : S69)) (k69_mkM _ _ _ (⟨(rd_T69 y333 x5_1).f0, (rd_T69 y333 x5_1).f1, wrap64 ((wrap64 (x1_1 + 1)) + 1)⟩ : S69) ) (fun _ hk => hk); have hx13_2 := hcc13 2 _ rfl; (try simp only [show (k69).sz = 3 from rfl, Nat.mul_one, Nat.add_zero] at hx13_2); have hf13_2 := hfr13 2; (try simp only [show (k69).sz = 3 from rfl, Nat.mul_one, Nat.add_zero] at hf13_2); clear hcl13 hcc13 hfr13 hM13) | ((with_reducible refine gate_store (t := 2) (p := 30) rfl ?_); refine store_event (t := 2) (p := 30) (v := ?vo_w14) (w1 := (w12.setCell ⟨go5, (x5_1 : Int).toNat * 3 + 2, none⟩ (.int .i64 (wrap64 ((wrap64 (x1_1 + 1)) + 1))))) ?hg ?ho ?hn ?hr ?_; (case ho => rfl); (case hg => rfl); (case hn => rfl); (case hr => first | (go_simp; done) | (go_simp; rfl)); intro w14 hw; have hg : w12.grownBy w14 (some go5) := (by rw [hw]; exact HP13.2); have hp_ : Kd.R k69 69 w14 w0.heap.size (fun k_ => (P0_ k_ ∨ w.heap.size ≤ k_)) (.slice (some ⟨go5, 0, none⟩) x0_1.length co8) y334 := (by rw [hw, Ny334.out]; exact HP13.1); clear HP13; have n0_ := A0_ (hp_); have n1_ := A0_ ((by rw [hw]; exact below_set (HB.out) GB5.out : Below w0.heap.size w0 w14)); have n2_ := A0_ (Kept.of_grown (S := (fun k_ => P0_ k_)) hg (by repeat (first | (with_reducible first | exact HK.out | apply Kept.alloc | apply Kept.drewN | apply Kept.drew) | exact HK.out)) (fun k_ e_ => (HO_0.out.1 k_ e_))); clear HO_0; clear HB; clear HK; have HO_0 := n0_; have HB := n1_; have HK := n2_; clear n0_ n1_ n2_; clear hg hw hp_))
     (go_roundg k1)
     case measure => have := HK1.out; omega
     case rel => exact ⟨(y334), (wrap64 ((wrap64 ((wrap64 (x1_1 + 1)) + 1)) + 1)), (wrap64 (x5_1 + 1)), (by first | rfl | (simp; done) | (simp [*]; done)), (by first | rfl | (simp; done) | (simp [*]; done)), H', ⟨by have := HK1.out; omega⟩, ⟨by (with_reducible repeat (first | apply Ra_ | apply Rn_ | apply Rd_)); exact HO_0.out⟩, ⟨by repeat (first | (with_reducible first | exact HK.out | apply Kept.alloc | apply Kept.drewN | apply Kept.drew) | exact HK.out)⟩, ⟨by repeat (first | (with_reducible first | exact HB.out | apply ba_ | apply bn_ | apply bd_) | exact HB.out)⟩⟩
    ·(rw [if_neg c4] at H); (exact absurd H (by simp))
   ·(rw [if_neg c3] at H); (have c3b0 : decide (x5_1 < (x0_1.length : Int)) = false := decide_eq_false c3); clear c3; (simp only [Option.some.injEq, Prod.mk.injEq] at H); (obtain ⟨rfl, rfl⟩ := H); (obtain ⟨Ao15, co15, eo15⟩ := Kd.R_slice HO_0.out); subst eo15; go_wp2; go_ret; (exact ⟨er_, by (with_reducible repeat (first | apply Ra_ | apply Rn_ | apply Rd_)); exact HO_0.out, by repeat (first | (with_reducible first | exact HB.out | apply ba_ | apply bn_ | apply bd_) | exact HB.out), by repeat (first | (with_reducible first | exact HK.out | apply Kept.alloc | apply Kept.drewN | apply Kept.drew) | exact HK.out)⟩)
end
end Go.Proofs.Ytlbckkagjekhnaa.A
