/- What the row of the law FnLeaving stands on, part 5. -/
import Derived.Test.YtcobnlilmihjfaaMFnLeaving4
namespace Go.Proofs.Ytcobnlilmihjfaa.A
open Go.RowKit Go.Proofs.YtcobnlilmihjfaaW.PrintWords Go.Proofs.YtcobnlilmihjfaaW.PrintLast Go.Proofs.YtcobnlilmihjfaaW.PrintMore
set_option linter.unusedVariables false
set_option linter.unusedSimpArgs false
theorem freeR_len {pp : List (List Cb)} {offs : List Cb} (h : pp.length ≤ 1048576) : (freeR pp offs).1.length ≤ 6291456 := by
 unfold freeR
 split
 ·have := freeK_len pp offs (6 * pp.length)
  show (freeK pp offs (6 * pp.length)).length ≤ 6291456
  omega
 ·simp
def lawLeF.T19 : Bool × List (List Nat × List Nat) := (true, [([], []), ([0], [0]), ([], []), ([2, 1], [2]), ([1, 3], [1, 3]), ([4, 3, 0, 1, 2, 3, 4], [4])])
def lawLeF.B19 : List Nat := [0, 1, 0, 7, 15, 31]
theorem lawLeF.tab19 : rtab .any (opsOf Try.f5 19) = lawLeF.T19 := by kernel_rfl
theorem lawLeF.bits19 : waitsOk lawLeF.T19.2 lawLeF.B19 = true := by kernel_rfl
set_option maxHeartbeats 8000000 in
set_option maxRecDepth 100000 in
theorem lawLe_calls (Ac : Option Addr) (cc : Nat) (code : List Int) (w : World) (hok : ∀ x ∈ code, 0 ≤ x ∧ x ≤ 255) (hC : Kd.C (Kd.int .u8) w Ac code.length code) (hcc : code.length ≤ cc) :
  Calls Try.prog 5 #[.slice Ac code.length cc] w fun e w' => e = .returned (.bool true) ∧ Below w.heap.size w w' := by
 have hu32 := Try.underlying26
 have HS := A0_ (Sp.start w)
 have HC := A0_ hC
 have HCC := A0_ hcc
 obtain ⟨bg, hbg⟩ : ∃ b, b = decide ((code.length : Int) > 4096) := ⟨_, rfl⟩
 have HOK : Aside0 (bg = false → CodeOk code) := A0_ (fun h => ⟨by have : ¬ ((code.length : Int) > 4096) := (by rw [h] at hbg; exact of_decide_eq_false hbg.symm); omega, hok⟩)
 have HBG := A0_ (show laws_big.f code = some bg by rw [big_eq, hbg])
 clear hok hC hcc hbg
 cases bg with
 | true =>
  go_enter Try.func5, Try.ntmps5
  go_wp2_with (first
   | (go_at_call 7; go_loud (refine (laws_big.calls Ac cc code true _ (Kd.C_below HC.out HS.out.below) HCC.out HBG.out).mono ?_; rintro e wc_ ⟨rfl, hd_⟩; replace HS := A0_ (Sp.far HS.out hd_.below); clear hd_)))
  go_ret
  exact ⟨rfl, HS.out.below⟩
 | false =>
  have HOK2 := A0_ (HOK.out rfl)
  clear HOK
  go_enter Try.func5, Try.ntmps5
  go_upto_region 4 with (first
   | (go_at_call 7; go_loud (refine (laws_big.calls Ac cc code false _ (Kd.C_below HC.out HS.out.below) HCC.out HBG.out).mono ?_; rintro e wc_ ⟨rfl, hd_⟩; replace HS := A0_ (Sp.far HS.out hd_.below); clear hd_))
   | (go_at_call 25; go_loud (refine (drawFree_calls Ac cc code _ HOK2.out (Kd.C_below HC.out HS.out.below) HCC.out).mono ?_; rintro e wc_ ⟨A, c, pp, Ao, co, offs, rfl, hz_, hc_, ho_, hs_⟩; replace HS := A0_ (Sp.app HS.out hs_); have HZ := A0_ hz_; have HCP := A0_ hc_; have HCO := A0_ ho_; clear hz_ hc_ ho_ hs_))
   | ((with_reducible refine gate_dst (N := 3) rfl ?_); refine be_ (N := 3) (cs := #[.slice none 0 0]) (t := 26) ?_; intro ga hgb_ wb_ hcb_ hbb_; replace HS := A0_ (Sp.boxed HS.out hgb_ hcb_ hbb_); clear hgb_ hcb_ hbb_)
   | ((with_reducible refine gate_store (t := 26) (p := 3) rfl ?_); refine store_event rfl rfl rfl (exec_store (v := .pointer (some ⟨ga, 0, none⟩)) (u := (.agg #[.slice A pp.length c])) rfl ?hp ?hx (Sp.blkStore HS.out (i := 0) rfl ((.agg #[.slice A pp.length c])) (#[.slice A pp.length c]) rfl rfl (by kernel_rfl) (by first | (simp; done) | (simp [Value.oneCell']; done) | (simp; exact ⟨rfl, rfl, rfl⟩)))) ?_; (case hp => first | rfl | (go_simp; done) | (go_simp; rfl)); (case hx => first | rfl | (go_simp; done) | (go_simp; rfl)); intro ws_ hw_; have HS_ := A0_ (Sp.blkAll HS.out (i := 0) rfl (#[.slice A pp.length c]) rfl); rw [← hw_] at HS_; clear HS hw_; have HS := HS_; clear HS_))
  have HS_ : Aside0 (Sp w ([Res.blk ga #[.slice A pp.length c] 26, asR A pp, offR Ao offs] ++ ([] : List Res)) _) := HS; clear HS; have HS := HS_; clear HS_
  have hg0 := (cl_ HS 0 0 rfl).trans rfl
  have HFI := A0_ (fun w1 h1 h2 => iFree_calls A c pp Ao co offs w1 h1 HZ.out h2 HCO.out)
  obtain ⟨KF, hKF⟩ := (sfree_ev HZ.out offs).rounds
  have hfl := freeR_len (offs := offs) HZ.out.len
  have hf0 : freeR pp offs = if codeP pp offs = 0 then (freeP pp offs, 0) else ([], codeP pp offs) := rfl
  obtain ⟨F, bad, hx⟩ : ∃ F bad, freeR pp offs = (F, bad) := ⟨_, _, rfl⟩
  rw [hx] at HFI hKF hfl hf0
  dsimp only at HFI hfl
  have HFS := A0_ (fun w1 h1 h2 => spec_FreeParts.calls KF A c pp Ao co offs F bad w1 h1 HCP.out h2 HCO.out hKF)
  have hb0 : bad = 0 → codeP pp offs = 0 ∧ F = freeP pp offs := fun h => by
   by_cases c : codeP pp offs = 0
   ·rw [if_pos c] at hf0; injection hf0 with h1 h2; exact ⟨c, h1⟩
   ·rw [if_neg c] at hf0; injection hf0 with h1 h2; exact absurd (h2.symm.trans h) c
  have HB0 := A0_ hb0
  have HFL := A0_ hfl
  obtain ⟨KL, hKL⟩ := (likeInts_ev F (by omega)).rounds
  have HKL := A0_ hKL
  clear hx hKF hfl hf0 hb0 hKL
  go_upto_region 7 with (first
   | (go_at_call 26; go_loud (refine (HFI.out _ (Sp.rdsP HS.out (i := 1) rfl asR_reads) (Sp.rds HS.out (i := 2) rfl offR_reads)).mono ?_; rintro e wc_ ⟨v_, rfl, hr_, hb_⟩; replace HS := A0_ (Sp.made' HS.out hb_ hr_); obtain ⟨Afa, cfa, rfl⟩ := Kd.R_slice hr_; clear hr_ hb_; clear HFI hg0; have hg0 := (cl_ HS 1 0 rfl).trans rfl))
   | (go_at_call 27; go_loud (refine (HFS.out _ (Sp.rdsP HS.out (i := 2) rfl asR_reads) (Sp.rds HS.out (i := 3) rfl offR_reads)).mono ?_; rintro e wc_ ⟨v_, rfl, hr_, hb_⟩; replace HS := A0_ (Sp.made' HS.out hb_ hr_); obtain ⟨Afb, cfb, rfl⟩ := Kd.R_slice hr_; clear hr_ hb_; clear HFS hg0; have hg0 := (cl_ HS 2 0 rfl).trans rfl))
   | (go_at_call 28; go_loud (refine (drawLeave_calls Ac cc code _ HOK2.out (Kd.C_below HC.out HS.out.below) HCC.out).mono ?_; rintro e wc_ ⟨A2, c2, qq, Ap, cp, of2, pt, dr, rfl, hz_, hc_, ho_, hs_⟩; replace HS := A0_ (Sp.app HS.out hs_); have HZ2 := A0_ hz_; have HCP2 := A0_ hc_; have HCO2 := A0_ ho_; clear hz_ hc_ ho_ hs_))
   | ((with_reducible refine gate_dst (N := 9) rfl ?_); refine be_ (N := 9) (cs := #[.slice none 0 0]) (t := 26) ?_; intro gb hgb_ wb_ hcb_ hbb_; replace HS := A0_ (Sp.boxed HS.out hgb_ hcb_ hbb_); clear hgb_ hcb_ hbb_)
   | ((with_reducible refine gate_store (t := 26) (p := 9) rfl ?_); refine store_event rfl rfl rfl (exec_store (v := .pointer (some ⟨gb, 0, none⟩)) (u := (.agg #[.slice A2 qq.length c2])) rfl ?hp ?hx (Sp.blkStore HS.out (i := 0) rfl ((.agg #[.slice A2 qq.length c2])) (#[.slice A2 qq.length c2]) rfl rfl (by kernel_rfl) (by first | (simp; done) | (simp [Value.oneCell']; done) | (simp; exact ⟨rfl, rfl, rfl⟩)))) ?_; (case hp => first | rfl | (go_simp; done) | (go_simp; rfl)); (case hx => first | rfl | (go_simp; done) | (go_simp; rfl)); intro ws_ hw_; have HS_ := A0_ (Sp.blkAll HS.out (i := 0) rfl (#[.slice A2 qq.length c2]) rfl); rw [← hw_] at HS_; clear HS hw_; have HS := HS_; clear HS_))
  have HS_ : Aside0 (Sp w ([Res.blk gb #[.slice A2 qq.length c2] 26, asR A2 qq, offR Ap of2, Res.row kI 2 w.heap.size (.slice Afb F.length cfb) F, Res.row kI 2 w.heap.size (.slice Afa F.length cfa) F, Res.blk ga #[.slice A pp.length c] 26, asR A pp, offR Ao offs] ++ ([] : List Res)) _) := HS; clear HS; have HS := HS_; clear HS_
  clear hg0
  have hg0 := (cl_ HS 5 0 rfl).trans rfl
  have hb0 := (cl_ HS 0 0 rfl).trans rfl
  have HDI := A0_ (fun w1 h1 h2 => iLeave_calls A2 c2 qq Ap cp of2 pt dr w1 h1 HZ2.out h2 HCO2.out)
  have HDS := A0_ (fun w1 h1 h2 => sLeave_calls A2 c2 qq Ap cp of2 pt dr w1 h1 HCP2.out HZ2.out h2 HCO2.out)
  obtain ⟨lv, one, hx⟩ : ∃ lv one, leaveR qq of2 pt dr = (lv, one) := ⟨_, _, rfl⟩
  rw [hx] at HDI HDS
  dsimp only at HDI HDS
  clear hx
  go_upto_region 11 with (first
   | (go_at_call 16; go_loud (refine (HDI.out _ (Sp.rdsP HS.out (i := 1) rfl asR_reads) (Sp.rds HS.out (i := 2) rfl offR_reads)).mono ?_; rintro e wc_ ⟨rfl, hb_⟩; replace HS := A0_ (Sp.far HS.out hb_); clear hb_; clear HDI hg0 hb0; have hg0 := (cl_ HS 5 0 rfl).trans rfl; have hb0 := (cl_ HS 0 0 rfl).trans rfl))
   | (go_at_call 29; go_loud (refine (HDS.out _ (Sp.rdsP HS.out (i := 1) rfl asR_reads) (Sp.rds HS.out (i := 2) rfl offR_reads)).mono ?_; rintro e wc_ ⟨rfl, hb_⟩; replace HS := A0_ (Sp.far HS.out hb_); clear hb_; clear HDS hg0 hb0; have hg0 := (cl_ HS 5 0 rfl).trans rfl; have hb0 := (cl_ HS 0 0 rfl).trans rfl))
   | (go_at_call 13; go_loud (refine (laws_likeInts.calls KL _ _ F _ _ F true _ (Sp.reads HS.out (i := 4) rfl).2.2 (Sp.reads HS.out (i := 4) rfl).2.1 (Sp.reads HS.out (i := 3) rfl).2.2 (Sp.reads HS.out (i := 3) rfl).2.1 HKL.out).mono ?_; rintro e wc_ ⟨rfl, hb_⟩; replace HS := A0_ (Sp.far HS.out hb_.below); clear hb_; clear HKL hg0 hb0; have hg0 := (cl_ HS 5 0 rfl).trans rfl; have hb0 := (cl_ HS 0 0 rfl).trans rfl)))
  by_cases cb : bad = 0
  ·subst cb
   obtain ⟨hcd, hF⟩ := HB0.out rfl
   have hn := (asm_of (code_00 hcd).1).1
   have HN := A0_ hn
   have e0 : wrap64 (6 * (pp.length : Int)) = ((6 * pp.length : Nat) : Int) := by unfold wrap64; omega
   have HIL := A0_ (fun (k : Nat) (hk : k < 6 * pp.length) => (⟨free_has pp offs k hk, leave_at hcd k hk⟩ : (freeP pp offs).contains (k : Int) = leavesP pp offs ((k : Int) / 6) ((k : Int) % 6) ∧ _))
   rw [← hF] at HIL
   have HII := A0_ (fun w1 h1 => iInter_calls A c pp w1 h1 HZ.out)
   obtain ⟨KI, hKI⟩ := (sint_ev HZ.out).rounds
   have HIS := A0_ (fun w1 h1 => spec_IsInterlocked.calls KI A c pp (intP pp) w1 h1 HCP.out hKI)
   obtain ⟨iv, hiv⟩ : ∃ b, b = intP pp := ⟨_, rfl⟩
   rw [← hiv] at HII HIS
   clear hcd hF hn hKI hiv HB0
   obtain ⟨T, hT⟩ : ∃ T, T = 6 * pp.length := ⟨_, rfl⟩
   rw [← hT] at e0 HIL
   have HT := A0_ (show T ≤ 24 by rw [hT]; have := HN.out; omega)
   clear hT
   go_upto_block 0 with (fail)
   go_wp2
   go_loopg [17] (T + 1) (fun kq v17 w' => ∃ (k : Nat), v17 = .int .i64 (k : Int) ∧ Aside0 (k ≤ T ∧ kq + k = T + 1) ∧ Aside0 (Sp w ([Res.blk gb #[.slice A2 qq.length c2] 26, asR A2 qq, offR Ap of2, Res.row kI 2 w.heap.size (.slice Afb F.length cfb) F, Res.row kI 2 w.heap.size (.slice Afa F.length cfa) F, Res.blk ga #[.slice A pp.length c] 26, asR A pp, offR Ao offs] ++ ([] : List Res)) w'))
   case atStart => exact ⟨0, rfl, ⟨by omega, by omega⟩, HS⟩
   case round =>
    clear HS
    obtain ⟨k, rfl, HX, HS⟩ := hrel
    obtain ⟨k1, rfl⟩ : ∃ k1, gk = k1 + 1 := ⟨gk - 1, by have := HX.out; omega⟩
    clear hg0 hb0
    have hg0 := (cl_ HS 5 0 rfl).trans rfl
    by_cases ck : k < T
    ·have q0 : decide (k < T) = true := decide_eq_true (by omega); have q1 : ((k : Int) < ((T : Nat) : Int)) = True := eq_true (by omega); have q2 : (k < T) = True := eq_true (by omega); have q3 : (0 ≤ (k : Int)) = True := eq_true (by omega)
     have HCK := A0_ ck
     have HW := A0_ (wrap_succ k (by have := HT.out; omega))
     have wd : wrap64 ((k : Int) / 6) = (k : Int) / 6 := by have := HT.out; unfold wrap64; omega
     obtain ⟨h1, h2⟩ := HIL.out k ck
     have HDL := A0_ (fun w1 h1 h2 => iLeave_calls A c pp Ao co offs ((k : Int) / 6) ((k : Int) % 6) w1 h1 HZ.out h2 HCO.out)
     rw [h2] at HDL
     dsimp only at HDL
     obtain ⟨bv, hbv⟩ : ∃ b, b = leavesP pp offs ((k : Int) / 6) ((k : Int) % 6) := ⟨_, rfl⟩
     rw [← hbv] at HDL h1
     obtain ⟨KH, hKH⟩ := (hasInt_ev F (k : Int) (by have := HFL.out; omega)).rounds
     rw [h1] at hKH
     have HKH := A0_ hKH
     clear ck h1 h2 hbv hKH
     go_wp2_with (first
      | (go_at_call 16; go_loud (refine (HDL.out _ (Sp.rdsP HS.out (i := 6) rfl asR_reads) (Sp.rds HS.out (i := 7) rfl offR_reads)).mono ?_; rintro e wc_ ⟨rfl, hb_⟩; replace HS := A0_ (Sp.far HS.out hb_); clear hb_; clear HDL hg0))
      | (go_at_call 30; go_loud (refine (laws_hasInt.calls KH _ _ F (k : Int) bv _ (Sp.reads HS.out (i := 4) rfl).2.2 (Sp.reads HS.out (i := 4) rfl).2.1 HKH.out).mono ?_; rintro e wc_ ⟨rfl, hb_⟩; replace HS := A0_ (Sp.far HS.out hb_.below); clear hb_; clear HKH)))
     go_roundg k1
     case measure => omega
     case rel =>
      rw [HW.out]
      exact ⟨k + 1, rfl, ⟨by have := HCK.out; omega, by have := HX.out; omega⟩, HS⟩
    ·have q0 : decide (k < T) = false := decide_eq_false (by omega); have q1 : ((k : Int) < ((T : Nat) : Int)) = False := eq_false (by omega); have q2 : (k < T) = False := eq_false (by omega)
     clear ck
     go_wp2
     replace HS := A0_ (Sp.drew HS.out)
     refine start_ (n := 6) (S := fun w' => w'.cell? ⟨ga, 0, none⟩ = some (.slice A pp.length c)) (ds := []) #[false, false, false, false, false, false] (by kernel_rfl) rfl rfl ((cl_ HS 5 0 rfl).trans rfl) (fun hHeld => ?_)
     refine with_tabW lawLeF.tab19 lawLeF.bits19 (fun HT_ HW_ => ?_)
     generalize wr.drew = wD19_ at HS hHeld ⊢
     refine tk_ 0 (some 110) ?_
     refine tk_ 2 (some 112) ?_
     refine o1_ 1 (some 111) (fun K hK => ?_)
     refine gs_ Try.func14 #[.agg #[.slice A pp.length c]] ?_
     refine (HII.out _ (Sp.rdsP HS.out (i := 6) rfl asR_reads)).mono ?_
     rintro e wA11 ⟨rfl, hb⟩
     refine ⟨_, rfl, ?_⟩
     replace HS := A0_ (Sp.far HS.out hb)
     clear hb
     refine hK.out _ _ ((cl_ HS 5 0 rfl).trans rfl) (fun hHeld => ?_)
     clear hK K
     refine nm_ (some 111) ?_
     refine o1_ 3 (some 113) (fun K hK => ?_)
     refine gs_ Try.func31 #[.agg #[.slice A pp.length c]] ?_
     refine (HIS.out _ (Sp.rdsP HS.out (i := 6) rfl asR_reads)).mono ?_
     rintro e wA12 ⟨rfl, hb⟩
     refine ⟨_, rfl, ?_⟩
     replace HS := A0_ (Sp.far HS.out hb)
     clear hb
     refine hK.out _ _ ((cl_ HS 5 0 rfl).trans rfl) (fun hHeld => ?_)
     clear hK K
     refine nm_ (some 113) ?_
     refine on_ 4 (some 114) ?_
     refine on_ 5 (some 2) ?_
     refine dn_ ?_
     try go_wp2
     go_ret
     exact ⟨(by first | rfl | simp | (congr 2; simp)), HS.out.below⟩
  ·have c0 : (bad == 0) = false := by rw [beq_eq_false_iff_ne]; exact cb
   have c1 : (bad != 0) = true := by rw [bne_iff_ne]; exact cb
   have c2 : (bad = 0) = False := eq_false cb
   clear cb
   go_wp2
   go_ret
   exact ⟨rfl, HS.out.below⟩
open Classical in
noncomputable def laws_FnLeaving.f (k : Nat) (l : List Int) : Option Bool := if ∀ x ∈ l, 0 ≤ x ∧ x ≤ 255 then some true else none
theorem laws_FnLeaving.calls (k : Nat) (A0_0 : Option Addr) (c0_0 : Nat) (l0_0 : List Int) (r : Bool) (w : World) (hr0_0 : Kd.C (Kd.int .u8) w A0_0 l0_0.length l0_0) (hc0_0 : l0_0.length ≤ c0_0) (h : laws_FnLeaving.f k l0_0 = some r) :
  Calls Try.prog 5 #[.slice A0_0 l0_0.length c0_0] w fun e w' => e = .returned (.bool r) ∧ Below w.heap.size w w' := by
 unfold laws_FnLeaving.f at h
 split at h
 case isFalse => cases h
 rename_i hok
 obtain rfl := Option.some.inj h
 exact lawLe_calls A0_0 c0_0 l0_0 w hok hr0_0 hc0_0
end Go.Proofs.Ytcobnlilmihjfaa.A
/- Arguments of a law opened as plain data, kind by kind: what can be read at a type is a value of its kind. -/
namespace Go.Proofs.Ytcobnlilmihjfaa.Opn
open Go.RowKit Go.Proofs.YtcobnlilmihjfaaW.PrintWords
def Op {α : Type} (P : Program) (t : TypeId) (d : Kd α) (ok : α → Prop) : Prop :=
 ∀ (H : Type) (enc : TypeId × Value → H) (W : World) (fuel : Nat) (cs : List Value) (x : DataW H × List MemPlace),
  DataW.trod enc P W 0 (fun _ => true) true fuel t cs = some x → ∃ a : α, d.K W a cs ∧ ok a
def OpF {α : Type} (P : Program) (o : Nat) (fs : List Field) (d : Kd α) (ok : α → Prop) : Prop :=
 ∀ (H : Type) (enc : TypeId × Value → H) (W : World) (fuel : Nat) (cs : List Value) (xs : List (DataW H × List MemPlace)), cs.length = o + d.sz →
  xs.length = fs.length → (∀ (i : Nat) (f : Field), fs[i]? = some f → DataW.trod enc P W 0 (fun _ => true) true fuel f.type ((cs.drop f.offset).take (P.cellsOf f.type)) = xs[i]?) → ∃ a : α, d.K W a (cs.drop o) ∧ ok a
def okInt (k : IntKind) (n : Int) : Prop := (Lit.int k n).wf = true
def okAll {α : Type} (ok : α → Prop) (l : List α) : Prop := l.length ≤ maxLen ∧ ∀ x ∈ l, ok x
def okTwo {α β : Type} (ok : α → Prop) (ok' : β → Prop) (x : α × β) : Prop := ok x.1 ∧ ok' x.2
theorem Op.int {P : Program} {t : TypeId} {k : IntKind} (ht : P.underlying t = some (.int k)) : Op P t (Kd.int k) (okInt k) := by
 intro H enc W fuel cs x h
 obtain ⟨n, rfl, _, hw⟩ := DataW.trod_int ht h
 exact ⟨n, rfl, hw⟩
theorem Op.bool {P : Program} {t : TypeId} (ht : P.underlying t = some .bool) : Op P t Kd.bool (fun _ => True) := by
 intro H enc W fuel cs x h
 obtain ⟨b, rfl, _⟩ := DataW.trod_bool ht h
 exact ⟨b, rfl, trivial⟩
theorem Op.iso {α β : Type} {P : Program} {t : TypeId} {d : Kd α} {ok : α → Prop} (h : Op P t d ok) (f : β → α) (g : α → β) (hfg : ∀ a, f (g a) = a) : Op P t (Kd.iso d f) (fun b => ok (f b)) := by
 intro H enc W fuel cs x hx
 obtain ⟨a, ha, hok⟩ := h H enc W fuel cs x hx
 refine ⟨g a, ?_, ?_⟩
 ·show d.K W (f (g a)) cs
  rw [hfg]
  exact ha
 ·show ok (f (g a))
  rw [hfg]
  exact hok
theorem list_of_lt {α : Type} {p : Nat → α → Prop} : ∀ n, (∀ i, i < n → ∃ a, p i a) → ∃ l : List α, l.length = n ∧ ∀ i a, l[i]? = some a → p i a
 | 0, _ => ⟨[], rfl, fun i a h => by simp at h⟩
 | n + 1, h => by
  obtain ⟨l, hl, hp⟩ := list_of_lt n (fun i hi => h i (by omega))
  obtain ⟨a, ha⟩ := h n (by omega)
  refine ⟨l ++ [a], by simp [hl], fun i b hb => ?_⟩
  by_cases hi : i < l.length
  ·rw [List.getElem?_append_left hi] at hb
   exact hp i b hb
  ·have hlt : i < (l ++ [a]).length := (List.getElem?_eq_some_iff.1 hb).1
   simp at hlt
   have : i = l.length := by omega
   subst this
   have hab : a = b := by simpa using hb
   subst hab
   rw [hl]
   exact ha
theorem Op.slice {α : Type} {P : Program} {t e : TypeId} {d : Kd α} {ok : α → Prop} (ht : P.underlying t = some (.slice e)) (hc : P.cellsOf e = d.sz) (h : Op P e d ok) :
  Op P t (Kd.slice e d) (okAll ok) := by
 intro H enc W fuel cs x hx
 rcases Deep.open_slice ht hx with ⟨rfl, _⟩ | ⟨a, len, cap, m, n, D, Pl, rfl, hb, hl, hm, hmm, _, hel⟩
 ·exact ⟨[], ⟨none, 0, rfl, Nat.le_refl _, rfl, by simp, fun h => absurd h (by simp)⟩, by simp [okAll]⟩
 ·rw [if_pos rfl] at hmm
  subst hmm
  obtain ⟨l, hlen, hl2⟩ := list_of_lt (p := fun i (y : α) => (∃ c, c.length = d.sz ∧ d.K W y c ∧ ∀ j u, c[j]? = some u → W.cell? (a.add (i * d.sz + j)) = some u) ∧ ok y) len (fun i hi => by
   obtain ⟨cs', h1, h2⟩ := hel i (by omega)
   obtain ⟨y, hy, hok⟩ := h H enc W n cs' _ h2
   obtain ⟨_, h3, h4⟩ := World.cells?_some h1
   refine ⟨y, ⟨cs', d.K_len hy, hy, fun j u hu => ?_⟩, hok⟩
   have hj : j < P.cellsOf e := by rw [← h3]; exact (List.getElem?_eq_some_iff.1 hu).1
   have h5 := h4 j hj
   rw [← hu, ← h5, hc, Addr.add_add])
  unfold maxLen at hm
  refine ⟨l, ⟨some a, m, by rw [hlen], by omega, rfl, by omega, fun _ => ⟨a, rfl, fun j p hj => (hl2 j p hj).1⟩⟩, by unfold maxLen; omega, fun y hy => ?_⟩
  obtain ⟨i, hi, rfl⟩ := List.getElem_of_mem hy
  exact (hl2 i _ (List.getElem?_eq_getElem hi)).2
theorem OpF.one {α : Type} {P : Program} {o : Nat} {f : Field} {d : Kd α} {ok : α → Prop} (ho : f.offset = o) (hc : P.cellsOf f.type = d.sz) (h : Op P f.type d ok) : OpF P o [f] d ok := by
 intro H enc W fuel cs xs hl hn hx
 match xs, hn with
 | [y], _ =>
 have hy := hx 0 f rfl
 simp only [List.getElem?_cons_zero] at hy
 rw [ho, hc, List.take_of_length_le (by simp; omega)] at hy
 exact h H enc W fuel _ _ hy
theorem OpF.cons {α β : Type} {P : Program} {o : Nat} {f : Field} {fs : List Field} {d : Kd α} {d' : Kd β} {ok : α → Prop} {ok' : β → Prop} (ho : f.offset = o) (hc : P.cellsOf f.type = d.sz) (h : Op P f.type d ok)
  (hr : OpF P (o + d.sz) fs d' ok') : OpF P o (f :: fs) (Kd.pair d d') (okTwo ok ok') := by
 intro H enc W fuel cs xs hl hn hx
 match xs, hn with
 | y :: ys, hn =>
 have hy := hx 0 f rfl
 have hys : ∀ (i : Nat) (f : Field), fs[i]? = some f → DataW.trod enc P W 0 (fun _ => true) true fuel f.type ((cs.drop f.offset).take (P.cellsOf f.type)) = ys[i]? := fun i g hg => by simpa using hx (i + 1) g (by simpa using hg)
 simp only [List.getElem?_cons_zero] at hy
 rw [ho, hc] at hy
 obtain ⟨a, ha, hok⟩ := h H enc W fuel _ _ hy
 obtain ⟨b, hb, hok'⟩ := hr H enc W fuel cs ys (by rw [hl]; show o + (d.sz + d'.sz) = _; omega) (by simpa using hn) hys
 refine ⟨(a, b), ⟨_, _, ?_, ha, hb⟩, hok, hok'⟩
 rw [← List.drop_drop, List.take_append_drop]
theorem Op.struct {α : Type} {P : Program} {t : TypeId} {fs : Array Field} {d : Kd α} {ok : α → Prop} (ht : P.underlying t = some (.struct fs)) (hc : P.cellsOf t = d.sz) (h : OpF P 0 fs.toList d ok) : Op P t d ok := by
 intro H enc W fuel cs x hx
 obtain ⟨xs, n, _, _, hl, hn, hxs⟩ := DataW.trod_struct ht hx
 obtain ⟨a, ha, hok⟩ := h H enc W n cs xs (by omega) (by simpa using hn) (fun i f hf => hxs i f (by simpa using hf))
 exact ⟨a, by simpa using ha, hok⟩
end Go.Proofs.Ytcobnlilmihjfaa.Opn

namespace Go.Proofs.Ytcobnlilmihjfaa.A
open Go.RowKit Go.Proofs.YtcobnlilmihjfaaW.PrintWords Go.Proofs.YtcobnlilmihjfaaW.PrintLast Go.Proofs.YtcobnlilmihjfaaW.PrintMore
set_option linter.unusedVariables false
set_option linter.unusedSimpArgs false
theorem op5 : Go.Proofs.Ytcobnlilmihjfaa.Opn.Op Try.prog 5 (Kd.int .u8) (Go.Proofs.Ytcobnlilmihjfaa.Opn.okInt .u8) := Go.Proofs.Ytcobnlilmihjfaa.Opn.Op.int Try.underlying5
theorem op22 : Go.Proofs.Ytcobnlilmihjfaa.Opn.Op Try.prog 22 (Kd.slice 5 (Kd.int .u8)) (Go.Proofs.Ytcobnlilmihjfaa.Opn.okAll (Go.Proofs.Ytcobnlilmihjfaa.Opn.okInt .u8)) := Go.Proofs.Ytcobnlilmihjfaa.Opn.Op.slice Try.underlying22 (by kernel_rfl) op5
def FnLeaving.Pure : Prop := ∀ (a0 : List (Int)), (Go.Proofs.Ytcobnlilmihjfaa.Opn.okAll (Go.Proofs.Ytcobnlilmihjfaa.Opn.okInt .u8)) a0 → ∃ k, laws_FnLeaving.f k a0 = some true
end Go.Proofs.Ytcobnlilmihjfaa.A
/- Leaving: the law's contract answers true. -/
namespace Go.Proofs.Ytcobnlilmihjfaa.Pure
open Go.RowKit Go.Proofs.YtcobnlilmihjfaaW.PrintWords Go.Proofs.YtcobnlilmihjfaaW.PrintLast Go.Proofs.YtcobnlilmihjfaaW.PrintMore Go.Proofs.Ytcobnlilmihjfaa.A
theorem FnLeaving : Go.Proofs.Ytcobnlilmihjfaa.A.FnLeaving.Pure := by
  intro a0 hok
  refine ⟨0, ?_⟩
  unfold laws_FnLeaving.f
  refine if_pos (fun x hx => ?_)
  have := hok.2 x hx
  simp [Opn.okInt, Lit.wf, IntKind.min, IntKind.max, IntKind.bits, IntKind.signed] at this
  omega
end Go.Proofs.Ytcobnlilmihjfaa.Pure

