/- What the row of the law FnExactStageOrder stands on, part 5. -/
import Derived.Test.YtlbckkagjekhnaaMFnExactStageOrder4
/- spec.l29Follow, walked. -/
namespace Go.Proofs.Ytlbckkagjekhnaa.A
open Go.RowKit Go.Proofs.YtlbckkagjekhnaaW.PrintWords Go.Proofs.YtlbckkagjekhnaaW.PrintLast Go.Proofs.YtlbckkagjekhnaaW.PrintMore
set_option linter.unusedVariables false
set_option linter.unusedSimpArgs false
/-- What FollowWay answers on any parts. -/
def followX (parts : List (List Cb)) (way : List Int) : List Cb × Int := if asmP parts = true then followR parts way else ([], 1)
theorem followX_ev {parts : List (List Cb)} (hz : SzOk parts) (way : List Int) (hw : way.length ≤ 1048576) (hm : ∀ m ∈ way, m ≤ 9223372036854775807) : Ev (fun k => spec_FollowWay.f k parts way) (followX parts way) := by
  unfold followX
  by_cases c : asmP parts = true
  · rw [if_pos c]
    exact followW_ev hz c way hw hm
  · rw [if_neg c]
    refine Ev.val fun k => ?_
    have h1 : spec_IsAssembly.f k parts = some false := by unfold spec_IsAssembly.f; rw [if_pos ⟨hz.len, hz.each⟩, asm_same]; exact congrArg some (by cases h : asmP parts with | false => exact h | true => exact absurd h c)
    unfold spec_FollowWay.f
    rw [h1, Option.bind_some, if_neg (by simp)]
theorem followX_0 {parts : List (List Cb)} {way : List Int} {o : List Cb} (h : followX parts way = (o, 0)) : asmP parts = true ∧ followF parts way = some o := by
  unfold followX at h
  by_cases c : asmP parts = true
  · rw [if_pos c] at h
    unfold followR at h
    cases hf : followF parts way with
    | none => rw [hf] at h; simp at h
    | some q => rw [hf] at h; exact ⟨c, by simpa using h⟩
  · rw [if_neg c] at h; simp at h
theorem followX_dead {a : GSt} {st : Sg} {o : List Cb} {cd : Int} (h : followX a.2.2 st.f0 = (o, cd)) (hc : ¬ cd = 0) : stepG a st = none := by
  unfold followX at h
  unfold stepG
  by_cases c : asmP a.2.2 = true
  · rw [if_pos c] at h ⊢
    unfold followR at h
    cases hf : followF a.2.2 st.f0 with
    | none => rfl
    | some q => rw [hf] at h; simp at h; exact absurd h.2.symm hc
  · rw [if_neg c]
/-- The offsets that a way leads to are near. -/
theorem follow_near {parts : List (List Cb)} (way : List Int) : ∀ o, followF parts way = some o → o.length = parts.length ∧ ∀ j : Nat, j < o.length → inCb (oAt o j) (-12) 12 = true := by
  have key : ∀ (l : List Int) (a : Option (List Cb)), (∀ o, a = some o → o.length = parts.length ∧ ∀ j : Nat, j < o.length → inCb (oAt o j) (-12) 12 = true) → ∀ o, l.foldl (fun a m => a.bind fun o => stepM parts o m) a = some o → o.length = parts.length ∧ ∀ j : Nat, j < o.length → inCb (oAt o j) (-12) 12 = true := by
    intro l
    induction l with
    | nil => intro a ha o h; exact ha o h
    | cons m l ih =>
      intro a ha o h
      refine ih (a.bind fun o => stepM parts o m) (fun q hq => ?_) o h
      cases a with
      | none => cases hq
      | some p =>
        have hq2 : stepM parts p m = some q := hq
        refine ⟨(stepM_len hq2).trans (ha p rfl).1, ?_⟩
        unfold stepM at hq2
        split at hq2
        · rename_i c
          obtain rfl := Option.some.inj hq2
          have c2 := (Bool.and_eq_true _ _ ▸ c : isMv parts.length m = true ∧ possP parts p m = true).2
          unfold possP areOffP at c2
          rw [Bool.and_eq_true, Bool.and_eq_true, Bool.and_eq_true, List.all_eq_true] at c2
          intro j hj
          have e : oAt (movedP p m) j = (movedP p m)[j] := by simp [oAt, List.getD_eq_getElem?_getD, hj]
          rw [e]
          exact c2.2.2.1 _ (List.getElem_mem hj)
        · cases hq2
  refine key way (some (zerosC parts.length)) (fun o h => ?_)
  obtain rfl := Option.some.inj h
  refine ⟨by simp [zerosC], fun j hj => ?_⟩
  have hj2 : j < parts.length := by simpa [zerosC] using hj
  have e : oAt (zerosC parts.length) j = ⟨0, 0, 0⟩ := by simp [oAt, zerosC, List.getD_eq_getElem?_getD, hj2]
  rw [e]
  rfl
theorem sleaves_at {parts : List (List Cb)} (hz : SzOk parts) (has : asmP parts = true) {way : List Int} {o : List Cb} (hf : followF parts way = some o) (ot : Int) (cw : 0 ≤ ot ∧ ot < 6 * (parts.length : Int)) : ∃ K, spec_l27Leaves.f K parts o (wrap64 (ot.tdiv 6)) (ot.tmod 6) = some (leavesP parts o (ot / 6) (ot % 6)) := by
  have ha := asm_of has
  have hn := follow_near way o hf
  have h1 := leaves_ev parts o hn.1 (by omega) hz.each (fun p hp => (ha.2 p hp).2) hn.2 (ot / 6).toNat (by omega) (ot % 6) (by omega)
  have e1 : wrap64 (ot.tdiv 6) = (((ot / 6).toNat : Nat) : Int) := by rw [Int.tdiv_eq_ediv_of_nonneg cw.1]; unfold wrap64; omega
  rw [e1, Int.tmod_eq_emod_of_nonneg cw.1]
  rw [show (((ot / 6).toNat : Nat) : Int) = ot / 6 by omega] at h1 ⊢
  obtain ⟨K, hK⟩ := h1.rounds
  exact ⟨K, hK⟩
def sgsF.T12 : Bool × List (List Nat × List Nat) := (true, [([], []), ([], []), ([], []), ([1, 2], [1, 2]), ([3], [3]), ([4], [4]), ([0, 5], [0, 5]), ([6], [6]), ([7], [7]), ([7], [7]), ([8, 6, 0, 1, 2, 3, 4, 5, 6, 7, 8], [8]), ([9, 10, 0, 1, 2, 3, 4, 5, 6, 7, 8, 9, 10], [9])])
def sgsF.B12 : List Nat := [0, 0, 0, 6, 14, 30, 63, 127, 255, 255, 511, 2047]
theorem sgsF.tab12 : rtab .any (opsOf Try.f61 12) = sgsF.T12 := by kernel_rfl
theorem sgsF.bits12 : waitsOk sgsF.T12.2 sgsF.B12 = true := by kernel_rfl
def sgsF.T14 : Bool × List (List Nat × List Nat) := (true, [([], []), ([0], [0]), ([1], [1]), ([2], [2]), ([2], [2]), ([3, 4, 2], [2, 3, 4]), ([5, 2], [2, 5]), ([6, 2], [2, 6]), ([2], [2]), ([8, 2], [2, 8]), ([9, 2], [2, 9]), ([10, 2], [2, 10]), ([11, 2], [2, 11]), ([7, 12, 2, 2], [2, 7, 12]), ([13, 2], [2, 13]), ([2, 14], [2, 14]), ([15, 13], [15]), ([16], [16]), ([16], [16]), ([16], [16]), ([16], [16]), ([16], [16]), ([20, 21, 16], [16, 20, 21]), ([22, 16], [16, 22]), ([23, 16], [16, 23]), ([24, 16], [16, 24]), ([17, 18, 19, 25, 16, 16], [16, 17, 18, 19, 25]), ([26, 16], [16, 26]), ([16, 27], [16, 27])])
def sgsF.B14 : List Nat := [0, 1, 3, 7, 7, 31, 63, 127, 7, 263, 775, 1799, 3847, 8191, 16383, 32767, 65535, 131071, 131071, 131071, 131071, 131071, 3276799, 7471103, 15859711, 32636927, 67108863, 134217727, 268435455]
theorem sgsF.tab14 : rtab .any (opsOf Try.f61 14) = sgsF.T14 := by kernel_rfl
theorem sgsF.bits14 : waitsOk sgsF.T14.2 sgsF.B14 = true := by kernel_rfl
def sgsF.T17 : Bool × List (List Nat × List Nat) := (true, [([], []), ([], []), ([], []), ([1, 2], [1, 2]), ([0, 3], [0, 3]), ([], []), ([], []), ([6], [6]), ([5, 7], [5, 7]), ([4, 8, 4], [4, 8]), ([9, 9, 0, 1, 2, 3, 4, 5, 6, 7, 8, 9], [1, 5, 9])])
def sgsF.B17 : List Nat := [0, 0, 0, 6, 15, 0, 0, 64, 224, 511, 1023]
theorem sgsF.tab17 : rtab .any (opsOf Try.f61 17) = sgsF.T17 := by kernel_rfl
theorem sgsF.bits17 : waitsOk sgsF.T17.2 sgsF.B17 = true := by kernel_rfl
set_option maxHeartbeats 16000000 in
set_option maxRecDepth 100000 in
theorem l29Follow_calls (Ap : Option Addr) (cp : Nat) (parts : List (List Cb)) (As : Option Addr) (cs : Nat) (stages : List Sg) (w : World) (hC : kP.C w Ap parts.length parts) (hcp : parts.length ≤ cp) (hz : SzOk parts) (hS : k98.C w As stages.length stages) (hcs : stages.length ≤ cs) (hg : SgOk stages) :
    Calls Try.prog 61 #[.agg #[.slice Ap parts.length cp], .slice As stages.length cs] w fun e w' => ∃ v_ : Value, e = .returned (.tuple #[v_, .bool (orderR parts stages).2]) ∧ kI.R 2 w' w.heap.size (fun _ => True) v_ (orderR parts stages).1 ∧ Below w.heap.size w w' := by
  have hu32 := Try.underlying32
  have hu98 := Try.underlying98
  have HS := A0_ (Sp.start w)
  have HC := A0_ hC
  have HCP := A0_ hcp
  have HZ := A0_ hz
  have HSG := A0_ hS
  have HCS := A0_ hcs
  have HG := A0_ hg
  have HPL := A0_ (show parts.length ≤ 1048576 from hz.len)
  have w0 : wrap64 ((parts.length : Int) - 1) = (parts.length : Int) - 1 := by have := hz.len; unfold wrap64; omega
  obtain ⟨OR, hOR⟩ : ∃ OR, OR = orderR parts stages := ⟨_, rfl⟩
  rw [← hOR]
  by_cases c : (stages.length : Int) = (parts.length : Int) - 1
  · have HOR := A0_ (show OR = orderM (stagesF parts stages) by rw [hOR]; unfold orderR; rw [if_pos c])
    have c0 : ((stages.length : Int) == (parts.length : Int) - 1) = true := by rw [beq_iff_eq]; exact c
    have c1 : ((stages.length : Int) != (parts.length : Int) - 1) = false := by rw [bne_eq_false_iff_eq]; exact c
    have c2 : ((stages.length : Int) = (parts.length : Int) - 1) = True := eq_true c
    have HLN := A0_ c
    clear hC hcp hz hS hcs hg hOR c
    go_enter Try.func61, Try.ntmps61
    go_wp2_with (first
      | ((with_reducible refine gate_dst (N := 2) rfl ?_); refine box_event ?hg (N := 2) ?hd (cs := #[.slice Ap parts.length cp]) (t := 32) ?hr ?_; (case hd => rfl); (case hg => rfl); (case hr => first | (go_simp; done) | (go_simp; rfl)); intro gn hgb_ wb_ hcb_ hbb_; have HS_ := A0_ (Sp.boxed HS.out hgb_ hcb_ hbb_); clear HS; have HS := HS_; clear HS_; clear hgb_ hcb_ hbb_; have ha0 := (blk_cell (Sp.blk HS.out (i := 0) rfl).1 0).trans rfl)
      | ((with_reducible refine gate_dst (N := 20) rfl ?_); refine Kd.R_lit kI _ 2 ?hg (N := 20) ?hd (xs := ([] : List Int)) (inner := []) (ok := fun _ => True) (okp := fun _ => True) ?hr ?hp (fun _ hk => hk) trivial (Below.refl _ _) (Nat.le_refl _) (by simp) ?_; (case hd => rfl); (case hg => rfl); (case hr => first | (go_simp; done) | (go_simp; rfl)); (case hp => exact (Reps.none _ _)); intro vl_ wl_ ho_ hb_ hg_ hn_; clear hg_ hn_; have HS_ := A0_ (Sp.made' HS.out hb_ ho_); clear HS; have HS := HS_; clear HS_; clear ho_ hb_; obtain ⟨An, cn, ev_⟩ := Sp.slice HS.out (i := 0) rfl; subst ev_; clear ha0; have ha0 := (blk_cell (Sp.blk HS.out (i := 1) rfl).1 0).trans rfl))
    clear c0 c1 c2 w0 ha0
    go_loopg [6, 7] (parts.length + 1) (fun kq v6 v7 w' => ∃ (i : Nat) (An : Option Addr) (cn : Nat), v7 = .int .i64 (i : Int) ∧ v6 = .slice An (namesP i).length cn ∧ Aside0 (i ≤ parts.length ∧ kq + i = parts.length + 1) ∧ Aside0 (Sp w [Res.row kI 2 w.heap.size (.slice An (namesP i).length cn) (namesP i), Res.blk gn #[.slice Ap parts.length cp] 32] w'))
    case atStart => exact ⟨0, An, cn, rfl, rfl, ⟨by omega, by omega⟩, HS⟩
    case round =>
      clear HS
      obtain ⟨i, An, cn, rfl, rfl, HX, HS⟩ := hrel
      obtain ⟨k1, rfl⟩ : ∃ k1, gk = k1 + 1 := ⟨gk - 1, by have := HX.out; omega⟩
      have ha0 := (blk_cell (Sp.blk HS.out (i := 1) rfl).1 0).trans rfl
      by_cases ci : i < parts.length
      · have ci0 : decide (i < parts.length) = true := decide_eq_true ci
        have q1 : ((i : Int) < (parts.length : Int)) = True := eq_true (by omega)
        have q2 : (i < parts.length) = True := eq_true ci
        have HW := A0_ (wrap_succ i (by have := HPL.out; omega))
        have HNL := A0_ (namesP_len i)
        have HNN := A0_ (namesP_next i)
        have HCI := A0_ ci
        clear ci
        obtain ⟨nm, hnm⟩ : ∃ nm, nm = namesP i := ⟨_, rfl⟩
        rw [← hnm] at HS HNL HNN ⊢
        have HNM := A0_ hnm
        clear hnm
        go_wp2_with (first
          | ((with_reducible refine gate_dst (N := 30) rfl ?_); refine Kd.R_lit kI _ 2 ?hg (N := 30) ?hd (xs := ([(i : Int)] : List Int)) (inner := [.int .i64 (i : Int)]) (ok := fun _ => True) (okp := fun _ => True) ?hr ?hp (fun _ hk => hk) trivial (Below.refl _ _) (Nat.le_refl _) (by simp) ?_; (case hd => rfl); (case hg => rfl); (case hr => first | (go_simp; done) | (go_simp; rfl)); (case hp => exact (Reps.one rfl (Reps.none _ _))); intro vl_ wl_ ho_ hb_ hg_ hn_; clear hg_ hn_; have HS_ := A0_ (Sp.made' HS.out hb_ ho_); clear HS; have HS := HS_; clear HS_; clear ho_ hb_; obtain ⟨Al, cl, ev_⟩ := Sp.slice HS.out (i := 0) rfl; subst ev_; clear ha0)
          | ((with_reducible refine gate_builtin (b := .append) (xs := #[.tmp 28, .tmp 30]) rfl ?_); at_builtin; obtain ⟨fp_, ho_, hf_, hc_⟩ := Sp.row HS.out (i := 1) rfl; refine Kd.R_append_rows kI (w0 := w) w.heap.size rfl (.tmp 28) (.tmp 30) 53 2 ((.int .i64 0)) 8 rfl Try.underlying53 info2 rfl (by decide) (by omega) (.slice An nm.length cn) (nm) (([(i : Int)] : List Int)) _ _ _ _ (fun _ => False) rfl rfl ho_ ((Sp.reads HS.out (i := 0) rfl).2.2) (fun _ _ h => h) (fun _ h => h.elim) (fun _ h => Or.inr h) HS.out.below HS.out.below.size ?aL ?_; (case aL => (have := HNL.out; have := HPL.out; have := HX.out; simp only [List.length_cons, List.length_nil]; omega)); intro va_ wa_ ho hb hg hat; have HS_ := A0_ (hc_ _ _ _ ho hg); clear HS; have HS := HS_; clear HS_; clear ho hb hg hat hc_ hf_ ho_ fp_; obtain ⟨A2, c2, ev_⟩ := Sp.slice HS.out (i := 1) rfl; subst ev_))
        go_roundg k1
        case measure => omega
        case rel =>
          rw [HW.out]
          have h1 := Sp.out HS.out 0
          have h2 : Sp w [Res.row kI 2 w.heap.size (.slice A2 (nm ++ [(i : Int)]).length c2) (nm ++ [(i : Int)]), Res.blk gn #[.slice Ap parts.length cp] 32] _ := h1
          rw [← HNN.out] at h2
          exact ⟨i + 1, A2, c2, rfl, by rw [HNN.out, List.length_append]; rfl, ⟨by have := HCI.out; omega, by have := HX.out; omega⟩, ⟨h2⟩⟩
      · have ci0 : decide (i < parts.length) = false := decide_eq_false ci
        have q1 : ((i : Int) < (parts.length : Int)) = False := eq_false (by omega)
        have q2 : (i < parts.length) = False := eq_false ci
        have hi : i = parts.length := by have := HX.out; omega
        subst hi
        have HGS := A0_ (GOk.start HZ.out)
        obtain ⟨nm, hnm⟩ : ∃ nm, nm = namesP parts.length := ⟨_, rfl⟩
        have hst : stagesF parts (stages.take 0) = some (nm, [], parts) := by rw [hnm]; rfl
        rw [← hnm] at HS HGS ⊢
        have HST := A0_ hst
        clear ci hnm hst HX
        go_wp2_with (first
          | ((with_reducible refine gate_dst (N := 32) rfl ?_); refine Kd.R_lit kI _ 2 ?hg (N := 32) ?hd (xs := ([] : List Int)) (inner := []) (ok := fun _ => True) (okp := fun _ => True) ?hr ?hp (fun _ hk => hk) trivial (Below.refl _ _) (Nat.le_refl _) (by simp) ?_; (case hd => rfl); (case hg => rfl); (case hr => first | (go_simp; done) | (go_simp; rfl)); (case hp => exact (Reps.none _ _)); intro vl_ wl_ ho_ hb_ hg_ hn_; clear hg_ hn_; have HS_ := A0_ (Sp.made' HS.out hb_ ho_); clear HS; have HS := HS_; clear HS_; clear ho_ hb_; obtain ⟨Ao, co, ev_⟩ := Sp.slice HS.out (i := 0) rfl; subst ev_; clear ha0))
        have HS_ := A0_ (Sp.arr (pre := [Res.pure True, Res.row kI 2 w.heap.size (.slice Ao ([] : List Int).length co) ([] : List Int), Res.row kI 2 w.heap.size (.slice An nm.length cn) nm, Res.blk gn #[.slice Ap parts.length cp] 32]) (pre' := [Res.row kI 2 w.heap.size (.slice An nm.length cn) nm, Res.row kI 2 w.heap.size (.slice Ao ([] : List Int).length co) ([] : List Int), Res.blk gn #[.slice Ap parts.length cp] 32, Res.pure True]) (rest := []) [2, 1, 3, 0] (Sp.pureIn HS.out trivial) rfl rfl)
        clear HS ci0 q1 q2
        have HS := HS_
        clear HS_
        go_loopg [6, 8, 9] (stages.length + 1) (fun kq v6 v8 v9 w' => ∃ (j : Nat) (nm ou : List Int) (pp : List (List Cb)) (An Ao Aq : Option Addr) (cn co cq : Nat) (rQ : Res), v9 = .int .i64 (j : Int) ∧ v6 = .slice An nm.length cn ∧ v8 = .slice Ao ou.length co ∧ Aside0 (j ≤ stages.length ∧ kq + j = stages.length + 1 ∧ stagesF parts (stages.take j) = some (nm, ou, pp) ∧ GOk (nm, ou, pp) parts.length j ∧ pp.length ≤ cq ∧ RdsP w rQ Aq pp) ∧ Aside0 (Sp w ([Res.row kI 2 w.heap.size (.slice An nm.length cn) nm, Res.row kI 2 w.heap.size (.slice Ao ou.length co) ou, Res.blk gn #[.slice Aq pp.length cq] 32] ++ [rQ]) w'))
        case atStart => exact ⟨0, nm, [], parts, An, Ao, Ap, cn, co, cp, Res.pure True, rfl, rfl, rfl, ⟨by omega, by omega, HST.out, HGS.out, HCP.out, RdsP.old HC.out⟩, HS⟩
        case round =>
          clear HS HGS HST
          obtain ⟨j, nm, ou, pp, An, Ao, Aq, cn, co, cq, rQ, rfl, rfl, rfl, HX, HS⟩ := hrel
          obtain ⟨k1, rfl⟩ : ∃ k1, gk = k1 + 1 := ⟨gk - 1, by have := HX.out; omega⟩
          by_cases cj : j < stages.length
          · have cj0 : decide (j < stages.length) = true := decide_eq_true cj
            have q0 : (0 ≤ (j : Int)) = True := eq_true (by omega)
            have q1 : ((j : Int) < (stages.length : Int)) = True := eq_true (by omega)
            have q2 : (j < stages.length) = True := eq_true cj
            have HW := A0_ (wrap_succ j (by have := HG.out.len; omega))
            have hsn := stages_next parts stages j cj
            rw [HX.out.2.2.1, Option.bind_some] at hsn
            obtain ⟨ads, Am, cm, e, hx0, hx1, hx2, hx3⟩ := at_T98 HSG.out (j : Int) (by omega) (by omega)
            subst e
            have hge : rd_T98 stages (j : Int) = stages[j] := by unfold rd_T98; exact getD_nat stages _ j cj
            rw [hge] at hx0 hx1 hx2 hx3
            rw [Int.toNat_natCast] at hx0 hx1
            have hgm := HG.out.mv stages[j] (List.getElem_mem cj)
            have hgo := HG.out.out stages[j] (List.getElem_mem cj)
            obtain ⟨st, hst⟩ : ∃ st, st = stages[j] := ⟨_, rfl⟩
            rw [← hst] at hsn hx0 hx1 hx2 hx3 hgm hgo
            obtain ⟨mv, ot⟩ := st
            dsimp only at hx0 hx1 hx2 hx3 hgm hgo
            have HY0 := A0_ hx0
            have HY1 := A0_ hx1
            have HMM := A0_ hx2
            have HMC := A0_ hx3
            have HGO := A0_ hgo
            have HCJ := A0_ cj
            have hoks := HX.out.2.2.2.1
            have HOKS := A0_ hoks
            have HRQ := A0_ HX.out.2.2.2.2.2
            have HCQ := A0_ HX.out.2.2.2.2.1
            have HSN := A0_ hsn
            have HP20 := A0_ (show pp.length ≤ 1048576 from hoks.sz.len)
            obtain ⟨oo, cd, hfx⟩ : ∃ oo cd, followX pp mv = (oo, cd) := ⟨_, _, rfl⟩
            obtain ⟨KW, hKW⟩ := (followX_ev (parts := pp) hoks.sz mv hgm.1 hgm.2).rounds
            rw [hfx] at hKW
            have HKW := A0_ hKW
            have HFX := A0_ hfx
            clear cj hge hst hgm hgo hx0 hx1 hx2 hx3 hsn hKW hfx hoks
            go_wp2
            have HS_ := A0_ (Sp.drew HS.out)
            clear HS
            have HS := HS_
            clear HS_
            refine start_ (n := 12) (S := fun w' => w'.cell? ⟨gn, 0, none⟩ = some (.slice Aq pp.length cq) ∧ w'.cell? (ads.add (j * 2)) = some (.slice Am mv.length cm) ∧ w'.cell? ⟨(ads.add (j * 2)).block, (ads.add (j * 2)).off + 1, none⟩ = some (.int .i64 ot)) (ds := []) #[false, false, false, false, false, false, false, false, false, false, false, false] (by kernel_rfl) rfl rfl (⟨(blk_cell (Sp.blk HS.out (i := 2) rfl).1 0).trans rfl, pw_cell_below HS.out.below HY0.out, pw_cell_below HS.out.below HY1.out⟩) (fun hHeld => ?_)
            refine with_tabW sgsF.tab12 sgsF.bits12 (fun HT_ HW_ => ?_)
            generalize wr.drew = wD at HS hHeld ⊢
            refine tk_ 0 (some 40) ?_
            refine on_ 1 (some 41) ?_
            refine on_ 2 (some 42) ?_
            refine on_ 3 (some 43) ?_
            refine on_ 4 (some 44) ?_
            refine tk_ 5 (some 45) ?_
            refine o1_ 6 (some 46) (fun K hK => ?_)
            refine goes_ Try.func90 (by kernel_rfl) rfl #[.agg #[.slice Aq pp.length cq], .slice Am mv.length cm] (by rfl) rfl rfl (by (try simp only [List.map_toArray, List.map_cons, List.map_nil]); first | done | rfl | (simp only [List.length_drop, List.length_take]; rfl)) ?_
            refine (spec_FollowWay.calls KW Aq cq pp Am cm mv oo cd _ (Sp.rdsP HS.out (i := 3) rfl HRQ.out) HCQ.out (Kd.C_below HMC.out HS.out.below) HMM.out HKW.out).mono ?_
            rintro e wA11 ⟨vA11, rfl, ho, hb⟩
            refine ⟨_, rfl, ?_⟩
            have HS_ := A0_ (Sp.made' HS.out hb ho)
            clear HS
            have HS := HS_
            clear HS_
            clear hb ho
            obtain ⟨AA11, cA11, rfl⟩ := Sp.slice HS.out (i := 0) rfl
            refine hK.out _ _ (⟨(blk_cell (Sp.blk HS.out (i := 3) rfl).1 0).trans rfl, pw_cell_below HS.out.below HY0.out, pw_cell_below HS.out.below HY1.out⟩) (fun hHeld => ?_)
            clear hK K
            refine nm_ (some 46) ?_
            refine on_ 7 (some 39) ?_
            refine on_ 8 (some 47) ?_
            refine on_ 9 (some 48) ?_
            refine on_ 10 (some 10) ?_
            refine on_ 11 (some 11) ?_
            refine dn_ ?_
            have hy1 := pw_cell_below HS.out.below HY1.out
            by_cases hcd : cd = 0
            · subst hcd
              obtain ⟨has, hfo⟩ := followX_0 HFX.out
              have HAS := A0_ has
              by_cases cw : 0 ≤ ot ∧ ot < 6 * (pp.length : Int)
              · have HWI := A0_ (show spec_l01In.f ot 0 (wrap64 (wrap64 (6 * (pp.length : Int)) - 1)) = some true by rw [in_eq]; unfold inR; rw [show wrap64 (wrap64 (6 * (pp.length : Int)) - 1) = 6 * (pp.length : Int) - 1 by have h1 := HP20.out; unfold wrap64; omega, decide_eq_true cw.1, decide_eq_true (show ot ≤ 6 * (pp.length : Int) - 1 by omega)]; rfl)
                obtain ⟨KL, hKL⟩ := sleaves_at (parts := pp) HOKS.out.sz has hfo ot cw
                cases hlv : leavesP pp oo (ot / 6) (ot % 6) with
                | false =>
                  have HDE := A0_ (show stagesF parts stages = none from stages_dead parts stages (j + 1) (by rw [HSN.out]; unfold stepG; rw [if_pos (show asmP pp = true from has)]; show (followF pp mv).bind _ = none; rw [hfo]; show (if (0 ≤ ot ∧ ot < 6 * (pp.length : Int)) ∧ leavesP pp oo (ot / 6) (ot % 6) = true then _ else _) = none; rw [if_neg (fun h => by rw [hlv] at h; exact absurd h.2 (by simp))]))
                  rw [hlv] at hKL
                  have HKL := A0_ hKL
                  clear has hfo cw hlv hKL HSN
                  go_wp2
                  clear hy1
                  have HS_ := A0_ (Sp.drew HS.out)
                  clear HS
                  have HS := HS_
                  clear HS_
                  refine start_ (n := 29) (S := fun w' => w'.cell? ⟨gn, 0, none⟩ = some (.slice Aq pp.length cq) ∧ w'.cell? (ads.add (j * 2)) = some (.slice Am mv.length cm) ∧ w'.cell? ⟨(ads.add (j * 2)).block, (ads.add (j * 2)).off + 1, none⟩ = some (.int .i64 ot)) (ds := []) #[false, false, false, false, false, false, false, false, false, false, false, false, false, false, false, false, false, false, false, false, false, false, false, false, false, false, false, false, false] (by kernel_rfl) rfl rfl (⟨(blk_cell (Sp.blk HS.out (i := 3) rfl).1 0).trans rfl, pw_cell_below HS.out.below HY0.out, pw_cell_below HS.out.below HY1.out⟩) (fun hHeld => ?_)
                  refine with_tabW sgsF.tab14 sgsF.bits14 (fun HT_ HW_ => ?_)
                  generalize wA11.drew = wE at HS hHeld ⊢
                  refine on_ 0 (some 55) ?_
                  refine on_ 1 (some 56) ?_
                  refine on_ 2 (some 57) ?_
                  refine on_ 3 (some 58) ?_
                  refine on_ 4 (some 59) ?_
                  refine on_ 5 (some 60) ?_
                  refine on_ 6 (some 61) ?_
                  refine tk_ 7 (some 62) ?_
                  refine on_ 8 (some 63) ?_
                  refine tk_ 9 (some 64) ?_
                  refine on_ 10 (some 65) ?_
                  refine on_ 11 (some 66) ?_
                  refine on_ 12 (some 67) ?_
                  refine o1_ 13 (some 68) (fun K hK => ?_)
                  refine goes_ Try.func45 (by kernel_rfl) rfl #[.int .i64 ot, .int .i64 0, .int .i64 (wrap64 (wrap64 (6 * (pp.length : Int)) - 1))] (by rfl) rfl rfl (by (try simp only [List.map_toArray, List.map_cons, List.map_nil]); first | done | rfl | (simp only [List.length_drop, List.length_take]; rfl)) ?_
                  refine ((spec_l01In.calls ot 0 (wrap64 (wrap64 (6 * (pp.length : Int)) - 1)) true _ HWI.out).mono (fun e w2 h => And.intro h.1 h.2.below)).mono ?_
                  rintro e wA21 ⟨rfl, hb⟩
                  refine ⟨_, rfl, ?_⟩
                  have HS_ := A0_ (Sp.far HS.out hb)
                  clear HS
                  have HS := HS_
                  clear HS_
                  clear hb
                  refine hK.out _ _ (⟨(blk_cell (Sp.blk HS.out (i := 3) rfl).1 0).trans rfl, pw_cell_below HS.out.below HY0.out, pw_cell_below HS.out.below HY1.out⟩) (fun hHeld => ?_)
                  clear hK K
                  refine nm_ (some 68) ?_
                  refine on_ 14 (some 69) ?_
                  refine on_ 15 (some 70) ?_
                  refine on_ 16 (some 71) ?_
                  refine tk_ 17 (some 72) ?_
                  refine on_ 18 (some 73) ?_
                  refine on_ 19 (some 74) ?_
                  refine on_ 20 (some 75) ?_
                  refine on_ 21 (some 76) ?_
                  refine on_ 22 (some 77) ?_
                  refine on_ 23 (some 78) ?_
                  refine tk_ 24 (some 79) ?_
                  refine on_ 25 (some 80) ?_
                  refine o1_ 26 (some 81) (fun K hK => ?_)
                  refine goes_ Try.func91 (by kernel_rfl) rfl #[.agg #[.slice Aq pp.length cq], .slice AA11 (oo).length cA11, .int .i64 (wrap64 (ot.tdiv 6)), .int .i64 (ot.tmod 6)] (by rfl) rfl rfl (by (try simp only [List.map_toArray, List.map_cons, List.map_nil]); first | done | rfl | (simp only [List.length_drop, List.length_take]; rfl)) ?_
                  refine (spec_l27Leaves.calls KL Aq cq pp AA11 cA11 oo (wrap64 (ot.tdiv 6)) (ot.tmod 6) false _ (Sp.rdsP HS.out (i := 4) rfl HRQ.out) HCQ.out (Sp.reads HS.out (i := 0) rfl).2.2 (Sp.reads HS.out (i := 0) rfl).2.1 HKL.out).mono ?_
                  rintro e wA22 ⟨rfl, hb⟩
                  refine ⟨_, rfl, ?_⟩
                  have HS_ := A0_ (Sp.far HS.out hb)
                  clear HS
                  have HS := HS_
                  clear HS_
                  clear hb
                  refine hK.out _ _ (⟨(blk_cell (Sp.blk HS.out (i := 3) rfl).1 0).trans rfl, pw_cell_below HS.out.below HY0.out, pw_cell_below HS.out.below HY1.out⟩) (fun hHeld => ?_)
                  clear hK K
                  refine nm_ (some 81) ?_
                  refine on_ 27 (some 82) ?_
                  refine on_ 28 (some 83) ?_
                  refine dn_ ?_
                  go_wp2
                  go_ret2
                  rw [HOR.out, HDE.out]
                  exact ⟨_, rfl, Kd.R_nil kI 2 _ _ _, HS.out.below⟩
                | true =>
                  rw [hlv] at hKL
                  have HKL := A0_ hKL
                  obtain ⟨p, hpd⟩ : ∃ p, p = (ot / 6).toNat := ⟨_, rfl⟩
                  obtain ⟨nx, hnx0⟩ : ∃ nx, nx = nm.getD p 0 := ⟨_, rfl⟩
                  have hst : stepG (nm, ou, pp) ⟨mv, ot⟩ = some (nm.eraseIdx p, ou ++ [nx], restP pp oo p) := by
                    unfold stepG
                    rw [if_pos (show asmP pp = true from has)]
                    show (followF pp mv).bind _ = _
                    rw [hfo]
                    show (if (0 ≤ ot ∧ ot < 6 * (pp.length : Int)) ∧ leavesP pp oo (ot / 6) (ot % 6) = true then _ else _) = _
                    rw [if_pos ⟨cw, hlv⟩, hnx0, hpd]
                  have HGN := A0_ (stepG_ok HOKS.out hst)
                  have HST2 := A0_ (HSN.out.trans hst)
                  have HRW := A0_ (asm_rows has)
                  have HNL := A0_ (show nm.length = pp.length from HOKS.out.nm)
                  have HOL2 := A0_ (show ou.length = j from HOKS.out.out)
                  have HOL := A0_ (follow_near mv oo hfo).1
                  have HPP := A0_ (show p < pp.length by omega)
                  have HDV := A0_ (show wrap64 (ot.tdiv 6) = (p : Int) by rw [Int.tdiv_eq_ediv_of_nonneg cw.1]; have h1 := HP20.out; unfold wrap64; omega)
                  have HNX := A0_ hnx0.symm
                  have HPN := A0_ (show p < nm.length by rw [HNL.out]; exact HPP.out)
                  have HNP := A0_ (show 0 < nm.length by have := HPN.out; omega)
                  have HNN := A0_ (show nm.length ≤ 1048576 by rw [HNL.out]; exact HP20.out)
                  have HOU := A0_ (show ou.length ≤ 1048576 by have := HOL2.out; have := HX.out.1; have := HG.out.len; omega)
                  clear has hfo cw hlv hKL HSN hpd hnx0 hst
                  go_wp2
                  clear hy1
                  have HS_ := A0_ (Sp.drew HS.out)
                  clear HS
                  have HS := HS_
                  clear HS_
                  refine start_ (n := 29) (S := fun w' => w'.cell? ⟨gn, 0, none⟩ = some (.slice Aq pp.length cq) ∧ w'.cell? (ads.add (j * 2)) = some (.slice Am mv.length cm) ∧ w'.cell? ⟨(ads.add (j * 2)).block, (ads.add (j * 2)).off + 1, none⟩ = some (.int .i64 ot)) (ds := []) #[false, false, false, false, false, false, false, false, false, false, false, false, false, false, false, false, false, false, false, false, false, false, false, false, false, false, false, false, false] (by kernel_rfl) rfl rfl (⟨(blk_cell (Sp.blk HS.out (i := 3) rfl).1 0).trans rfl, pw_cell_below HS.out.below HY0.out, pw_cell_below HS.out.below HY1.out⟩) (fun hHeld => ?_)
                  refine with_tabW sgsF.tab14 sgsF.bits14 (fun HT_ HW_ => ?_)
                  generalize wA11.drew = wE at HS hHeld ⊢
                  refine on_ 0 (some 55) ?_
                  refine on_ 1 (some 56) ?_
                  refine on_ 2 (some 57) ?_
                  refine on_ 3 (some 58) ?_
                  refine on_ 4 (some 59) ?_
                  refine on_ 5 (some 60) ?_
                  refine on_ 6 (some 61) ?_
                  refine tk_ 7 (some 62) ?_
                  refine on_ 8 (some 63) ?_
                  refine tk_ 9 (some 64) ?_
                  refine on_ 10 (some 65) ?_
                  refine on_ 11 (some 66) ?_
                  refine on_ 12 (some 67) ?_
                  refine o1_ 13 (some 68) (fun K hK => ?_)
                  refine goes_ Try.func45 (by kernel_rfl) rfl #[.int .i64 ot, .int .i64 0, .int .i64 (wrap64 (wrap64 (6 * (pp.length : Int)) - 1))] (by rfl) rfl rfl (by (try simp only [List.map_toArray, List.map_cons, List.map_nil]); first | done | rfl | (simp only [List.length_drop, List.length_take]; rfl)) ?_
                  refine ((spec_l01In.calls ot 0 (wrap64 (wrap64 (6 * (pp.length : Int)) - 1)) true _ HWI.out).mono (fun e w2 h => And.intro h.1 h.2.below)).mono ?_
                  rintro e wA21 ⟨rfl, hb⟩
                  refine ⟨_, rfl, ?_⟩
                  have HS_ := A0_ (Sp.far HS.out hb)
                  clear HS
                  have HS := HS_
                  clear HS_
                  clear hb
                  refine hK.out _ _ (⟨(blk_cell (Sp.blk HS.out (i := 3) rfl).1 0).trans rfl, pw_cell_below HS.out.below HY0.out, pw_cell_below HS.out.below HY1.out⟩) (fun hHeld => ?_)
                  clear hK K
                  refine nm_ (some 68) ?_
                  refine on_ 14 (some 69) ?_
                  refine on_ 15 (some 70) ?_
                  refine on_ 16 (some 71) ?_
                  refine tk_ 17 (some 72) ?_
                  refine on_ 18 (some 73) ?_
                  refine on_ 19 (some 74) ?_
                  refine on_ 20 (some 75) ?_
                  refine on_ 21 (some 76) ?_
                  refine on_ 22 (some 77) ?_
                  refine on_ 23 (some 78) ?_
                  refine tk_ 24 (some 79) ?_
                  refine on_ 25 (some 80) ?_
                  refine o1_ 26 (some 81) (fun K hK => ?_)
                  refine goes_ Try.func91 (by kernel_rfl) rfl #[.agg #[.slice Aq pp.length cq], .slice AA11 (oo).length cA11, .int .i64 (wrap64 (ot.tdiv 6)), .int .i64 (ot.tmod 6)] (by rfl) rfl rfl (by (try simp only [List.map_toArray, List.map_cons, List.map_nil]); first | done | rfl | (simp only [List.length_drop, List.length_take]; rfl)) ?_
                  refine (spec_l27Leaves.calls KL Aq cq pp AA11 cA11 oo (wrap64 (ot.tdiv 6)) (ot.tmod 6) true _ (Sp.rdsP HS.out (i := 4) rfl HRQ.out) HCQ.out (Sp.reads HS.out (i := 0) rfl).2.2 (Sp.reads HS.out (i := 0) rfl).2.1 HKL.out).mono ?_
                  rintro e wA22 ⟨rfl, hb⟩
                  refine ⟨_, rfl, ?_⟩
                  have HS_ := A0_ (Sp.far HS.out hb)
                  clear HS
                  have HS := HS_
                  clear HS_
                  clear hb
                  refine hK.out _ _ (⟨(blk_cell (Sp.blk HS.out (i := 3) rfl).1 0).trans rfl, pw_cell_below HS.out.below HY0.out, pw_cell_below HS.out.below HY1.out⟩) (fun hHeld => ?_)
                  clear hK K
                  refine nm_ (some 81) ?_
                  refine on_ 27 (some 82) ?_
                  refine on_ 28 (some 83) ?_
                  refine dn_ ?_
                  have hdv := HDV.out
                  obtain ⟨adn, e_⟩ := Sp.some_ HS.out (i := 1) rfl HNP.out
                  subst e_
                  have hnx := Sp.intCell HS.out (i := 1) rfl p HPN.out
                  rw [HNX.out] at hnx
                  have p0 : (0 ≤ (p : Int)) = True := eq_true (by omega)
                  have p1 : ((p : Int) < (nm.length : Int)) = True := eq_true (by have := HPN.out; omega)
                  have p2 : (p < nm.length) = True := eq_true HPN.out
                  go_wp2_with (first
                    | ((with_reducible refine gate_dst (N := 89) rfl ?_); refine Kd.R_lit kI _ 2 ?hg (N := 89) ?hd (xs := ([nx] : List Int)) (inner := [.int .i64 nx]) (ok := fun _ => True) (okp := fun _ => True) ?hr ?hp (fun _ hk => hk) trivial (Below.refl _ _) (Nat.le_refl _) (by simp) ?_; (case hd => rfl); (case hg => rfl); (case hr => first | (go_simp; done) | (go_simp; rfl)); (case hp => exact (Reps.one rfl (Reps.none _ _))); intro vl_ wl_ ho_ hb_ hg_ hn_; clear hg_ hn_; have HS_ := A0_ (Sp.made' HS.out hb_ ho_); clear HS; have HS := HS_; clear HS_; clear ho_ hb_; obtain ⟨Al, cl, ev_⟩ := Sp.slice HS.out (i := 0) rfl; subst ev_; clear hnx)
                    | ((with_reducible refine gate_builtin (b := .append) (xs := #[.tmp 84, .tmp 89]) rfl ?_); at_builtin; obtain ⟨fp_, ho_, hf_, hc_⟩ := Sp.row HS.out (i := 3) rfl; refine Kd.R_append_rows kI (w0 := w) w.heap.size rfl (.tmp 84) (.tmp 89) 53 2 ((.int .i64 0)) 8 rfl Try.underlying53 info2 rfl (by decide) (by omega) (.slice Ao ou.length co) (ou) (([nx] : List Int)) _ _ _ _ (fun _ => False) rfl rfl ho_ ((Sp.reads HS.out (i := 0) rfl).2.2) (fun _ _ h => h) (fun _ h => h.elim) (fun _ h => Or.inr h) HS.out.below HS.out.below.size ?aL ?_; (case aL => (have h1_ := HOU.out; simp only [List.length_cons, List.length_nil]; omega)); intro va_ wa_ ho hb hg hat; have HS_ := A0_ (hc_ _ _ _ ho hg); clear HS; have HS := HS_; clear HS_; clear ho hb hg hat hc_ hf_ ho_ fp_; obtain ⟨A2, c2, ev_⟩ := Sp.slice HS.out (i := 3) rfl; subst ev_))
                  clear p1
                  obtain ⟨An2, hAn2⟩ : ∃ A_, A_ = some adn := ⟨_, rfl⟩
                  rw [← hAn2] at HS ⊢
                  clear hAn2
                  obtain ⟨p1, hp1⟩ : ∃ p1, p1 = p + 1 := ⟨_, rfl⟩
                  have hwp : wrap64 ((p : Int) + 1) = (p1 : Int) := by have := HPP.out; have := HP20.out; rw [hp1]; unfold wrap64; omega
                  have HP1 := A0_ (show p1 ≤ nm.length by have := HPN.out; omega)
                  have HS_ := A0_ (show Sp w ([Res.row kC 69 w.heap.size (.slice AA11 (oo).length cA11) (oo), Res.row kI 2 w.heap.size (.slice An2 nm.length cn) nm, Res.row kI 2 w.heap.size (.slice A2 (ou ++ [nx]).length c2) (ou ++ [nx]), Res.blk gn #[.slice Aq pp.length cq] 32] ++ [rQ]) _ from Sp.drew (Sp.out HS.out 0))
                  clear HS
                  have HS := HS_
                  clear HS_
                  have hcap := (Sp.reads HS.out (i := 1) rfl).2.1
                  obtain ⟨Ad, hAd⟩ : ∃ Ad, Ad = (if cn = p1 then An2 else An2.map (·.add (p1 * 1))) := ⟨_, rfl⟩
                  have HCD := A0_ (fun (w1 : World) (h : kI.C w1 An2 nm.length nm) => (show kI.C w1 Ad (nm.length - p1) (nm.drop p1) from by have h1 := Kd.C_drop h HP1.out hcap; rw [List.length_drop] at h1; rw [hAd]; exact h1))
                  have HCT := A0_ (fun (w1 : World) (h : kI.C w1 An2 nm.length nm) => (show kI.C w1 An2 p (nm.take p) from by have h1 := Kd.C_take h (Nat.le_of_lt HPN.out); rw [List.length_take, Nat.min_eq_left (Nat.le_of_lt HPN.out)] at h1; exact h1))
                  have hpc : (p ≤ cn) = True := eq_true (Nat.le_trans (Nat.le_of_lt HPN.out) hcap)
                  have hpl : (p ≤ nm.length) = True := eq_true (Nat.le_of_lt HPN.out)
                  have hpc1 : (p1 ≤ cn) = True := eq_true (Nat.le_trans HP1.out hcap)
                  have hpl1 : (p1 ≤ nm.length) = True := eq_true HP1.out
                  have hAd1 : (if cn = p1 then An2 else Option.map (fun x => x.add p1) An2) = Ad := by rw [hAd, Nat.mul_one]
                  have HER := A0_ (show (([] : List Int) ++ nm.take p) ++ nm.drop p1 = nm.eraseIdx p by rw [List.nil_append, hp1, List.eraseIdx_eq_take_drop_succ])
                  have HPE1 := A0_ hp1
                  clear hAd hcap hp1
                  refine start_ (n := 11) (S := fun w' => True) (ds := []) #[false, false, false, false, false, false, false, false, false, false, false] (by kernel_rfl) rfl rfl (trivial) (fun hHeld => ?_)
                  refine with_tabW sgsF.tab17 sgsF.bits17 (fun HT_ HW_ => ?_)
                  generalize wa_.drew = wF at HS hHeld ⊢
                  refine on_ 1 (some 92) ?_
                  refine on_ 2 (some 93) ?_
                  refine on_ 3 (some 94) ?_
                  refine on_ 5 (some 96) ?_
                  refine on_ 6 (some 97) ?_
                  refine on_ 7 (some 98) ?_
                  refine on_ 8 (some 99) ?_
                  refine o1_ 0 (some 91) (fun K hK => ?_)
                  refine Kd.R_lit_step kI _ 2 ?hg (N := 91) ?hd (xs := ([] : List Int)) (inner := []) (ok := fun _ => True) (okp := fun _ => True) ?hr ?hp (fun _ hk => hk) trivial (Below.refl _ _) (Nat.le_refl _) (by simp) ?_
                  (case hd => rfl)
                  (case hg => rfl)
                  (case hr => first | (go_simp; done) | (go_simp; rfl))
                  (case hp => exact (Reps.none _ _))
                  intro vA31 wA31 ho hb hg_ hnew_
                  clear hg_ hnew_
                  have HS_ := A0_ (Sp.made' HS.out hb ho)
                  clear HS
                  have HS := HS_
                  clear HS_
                  clear hb ho
                  obtain ⟨AA31, cA31, eA_⟩ := Sp.slice HS.out (i := 0) rfl
                  subst eA_
                  refine hK.out _ _ (trivial) (fun hHeld => ?_)
                  clear hK K
                  refine nm_ (some 91) ?_
                  refine o1_ 4 (some 95) (fun K hK => ?_)
                  obtain ⟨fp_, ho_, hf_, hc_⟩ := Sp.row HS.out (i := 0) rfl
                  refine Kd.R_append_rows_step kI w.heap.size (by rfl) (.tmp 91) (.tmp 94) 53 2 (.int .i64 0) 8 rfl Try.underlying53 info2 rfl (by decide) (by omega) _ ([] : List Int) (nm.take p) _ _ _ _ (fun _ => False) rfl rfl ho_ (HCT.out _ (Sp.reads HS.out (i := 2) rfl).2.2) (fun _ _ h => h) (fun _ h => h.elim) (fun _ h => .inr h) HS.out.below HS.out.below.size ?aL ?_
                  (case aL => have := HNN.out; have := HPN.out; simp only [List.length_append, List.length_take, List.length_drop, List.length_nil]; omega)
                  intro vA32 wA32 ho hb hg hat
                  have HS_ := A0_ (hc_ _ _ _ ho hg)
                  clear HS
                  have HS := HS_
                  clear HS_
                  clear ho hb hg hat ho_ hf_ hc_ fp_
                  obtain ⟨AA32, cA32, eA_⟩ := Sp.slice HS.out (i := 0) rfl
                  subst eA_
                  refine hK.out _ _ (trivial) (fun hHeld => ?_)
                  clear hK K
                  refine nm_ (some 95) ?_
                  refine o1_ 9 (some 100) (fun K hK => ?_)
                  obtain ⟨fp_, ho_, hf_, hc_⟩ := Sp.row HS.out (i := 0) rfl
                  refine Kd.R_append_rows_step kI w.heap.size (by rfl) (.tmp 95) (.tmp 99) 53 2 (.int .i64 0) 8 rfl Try.underlying53 info2 rfl (by decide) (by omega) _ (([] : List Int) ++ nm.take p) (nm.drop p1) _ _ _ _ (fun _ => False) rfl rfl ho_ (HCD.out _ (Sp.reads HS.out (i := 2) rfl).2.2) (fun _ _ h => h) (fun _ h => h.elim) (fun _ h => .inr h) HS.out.below HS.out.below.size ?aL ?_
                  (case aL => have := HNN.out; have := HPN.out; simp only [List.length_append, List.length_take, List.length_drop, List.length_nil]; omega)
                  intro vA33 wA33 ho hb hg hat
                  have HS_ := A0_ (hc_ _ _ _ ho hg)
                  clear HS
                  have HS := HS_
                  clear HS_
                  clear ho hb hg hat ho_ hf_ hc_ fp_
                  obtain ⟨AA33, cA33, eA_⟩ := Sp.slice HS.out (i := 0) rfl
                  subst eA_
                  refine hK.out _ _ (trivial) (fun hHeld => ?_)
                  clear hK K
                  refine nm_ (some 100) ?_
                  refine on_ 10 (some 6) ?_
                  refine dn_ ?_
                  have HS_ := A0_ (Sp.arr (pre := [Res.row kI 2 w.heap.size (.slice AA33 ((([] : List Int) ++ nm.take p) ++ (nm.drop p1)).length cA33) ((([] : List Int) ++ nm.take p) ++ (nm.drop p1)), Res.row kC 69 w.heap.size (.slice AA11 (oo).length cA11) (oo), Res.row kI 2 w.heap.size (.slice An2 nm.length cn) nm, Res.row kI 2 w.heap.size (.slice A2 (ou ++ [nx]).length c2) (ou ++ [nx]), Res.blk gn #[.slice Aq pp.length cq] 32]) (pre' := [Res.row kI 2 w.heap.size (.slice AA33 ((([] : List Int) ++ nm.take p) ++ (nm.drop p1)).length cA33) ((([] : List Int) ++ nm.take p) ++ (nm.drop p1)), Res.row kC 69 w.heap.size (.slice AA11 (oo).length cA11) (oo), Res.row kI 2 w.heap.size (.slice A2 (ou ++ [nx]).length c2) (ou ++ [nx]), Res.blk gn #[.slice Aq pp.length cq] 32, Res.row kI 2 w.heap.size (.slice An2 nm.length cn) nm]) (rest := [rQ]) [0, 1, 3, 4, 2] HS.out rfl rfl)
                  clear HS
                  have HS := HS_
                  clear HS_
                  rw [HER.out] at HS ⊢
                  have hn0 := (blk_cell (Sp.blk HS.out (i := 3) rfl).1 0).trans rfl
                  go_wp2_with (first
                    | (go_at_call 46; go_loud (refine (sl28Rest_calls Aq cq pp AA11 cA11 oo p _ (Sp.rdsP HS.out (i := 5) rfl HRQ.out) HCQ.out (Sp.reads HS.out (i := 1) rfl).2.2 (Sp.reads HS.out (i := 1) rfl).2.1 HOL.out HRW.out.1 HRW.out.2 HPP.out).mono ?_; rintro e wr_ ⟨vr_, rfl, hs_, hb_⟩; have HS_ := A0_ (Sp.madeS HS.out hb_ hs_); clear HS; have HS := HS_; clear HS_; clear hb_ hs_ hn0; obtain ⟨Ar, cr, ev_⟩ := Sp.sliceS HS.out (i := 0) rfl; subst ev_; have HCR := A0_ (Sp.readsS HS.out (i := 0) rfl).2.1))
                    | ((with_reducible refine gate_store (t := 32) (p := 2) rfl ?_); refine store_event rfl rfl rfl (exec_store (v := .pointer (some ⟨gn, 0, none⟩)) (u := (.agg #[.slice Ar (restP pp oo p).length cr])) rfl ?hp ?hx (Sp.blkStore HS.out (i := 4) rfl ((.agg #[.slice Ar (restP pp oo p).length cr])) (#[.slice Ar (restP pp oo p).length cr]) rfl rfl (by kernel_rfl) (by first | (simp; done) | (simp [Value.oneCell']; done) | (simp; exact ⟨rfl, rfl, rfl⟩)))) ?_; (case hp => first | rfl | (go_simp; done) | (go_simp; rfl)); (case hx => first | rfl | (go_simp; done) | (go_simp; rfl)); intro ws_ hw_; have HS_ := A0_ (Sp.blkAll HS.out (i := 4) rfl (#[.slice Ar (restP pp oo p).length cr]) rfl); rw [← hw_] at HS_; clear HS hw_; have HS := HS_; clear HS_))
                  go_roundg k1
                  case measure => omega
                  case rel =>
                    rw [HW.out]
                    have h3_ : Sp w ([Res.rowS kP 34 w.heap.size (.slice Ar (restP pp oo p).length cr) (restP pp oo p), Res.row kI 2 w.heap.size (.slice AA33 (nm.eraseIdx p).length cA33) (nm.eraseIdx p), Res.row kC 69 w.heap.size (.slice AA11 oo.length cA11) oo, Res.row kI 2 w.heap.size (.slice A2 (ou ++ [nx]).length c2) (ou ++ [nx]), Res.blk gn #[.slice Ar (restP pp oo p).length cr] 32, Res.row kI 2 w.heap.size (.slice An2 nm.length cn) nm] ++ [rQ]) _ := HS.out
                    have h4_ := Sp.arr (pre := [Res.rowS kP 34 w.heap.size (.slice Ar (restP pp oo p).length cr) (restP pp oo p), Res.row kI 2 w.heap.size (.slice AA33 (nm.eraseIdx p).length cA33) (nm.eraseIdx p), Res.row kC 69 w.heap.size (.slice AA11 oo.length cA11) oo, Res.row kI 2 w.heap.size (.slice A2 (ou ++ [nx]).length c2) (ou ++ [nx]), Res.blk gn #[.slice Ar (restP pp oo p).length cr] 32, Res.row kI 2 w.heap.size (.slice An2 nm.length cn) nm]) (pre' := [Res.row kI 2 w.heap.size (.slice AA33 (nm.eraseIdx p).length cA33) (nm.eraseIdx p), Res.row kI 2 w.heap.size (.slice A2 (ou ++ [nx]).length c2) (ou ++ [nx]), Res.blk gn #[.slice Ar (restP pp oo p).length cr] 32, Res.rowS kP 34 w.heap.size (.slice Ar (restP pp oo p).length cr) (restP pp oo p), Res.row kC 69 w.heap.size (.slice AA11 oo.length cA11) oo, Res.row kI 2 w.heap.size (.slice An2 nm.length cn) nm]) [1, 3, 4, 0, 2, 5] h3_ rfl rfl
                    have h5_ := Sp.out (Sp.out (Sp.out h4_ 6) 5) 4
                    exact ⟨j + 1, _, _, _, AA33, A2, Ar, cA33, c2, cr, _, rfl, by rw [List.length_eraseIdx, if_pos HPN.out, show p + (nm.length - p1) = nm.length - 1 by have := HPN.out; have := HPE1.out; omega], by simp only [List.length_append, List.length_cons, List.length_nil], ⟨by have := HCJ.out; omega, by have := HX.out.2.1; omega, HST2.out, HGN.out, HCR.out, RdsP.rowS⟩, ⟨h5_⟩⟩
              · have HWI := A0_ (show spec_l01In.f ot 0 (wrap64 (wrap64 (6 * (pp.length : Int)) - 1)) = some false by rw [in_eq]; unfold inR; rw [show wrap64 (wrap64 (6 * (pp.length : Int)) - 1) = 6 * (pp.length : Int) - 1 by have h1 := HP20.out; unfold wrap64; omega, Option.some.injEq, Bool.and_eq_false_iff, decide_eq_false_iff_not, decide_eq_false_iff_not]; omega)
                have HDE := A0_ (show stagesF parts stages = none from stages_dead parts stages (j + 1) (by rw [HSN.out]; unfold stepG; rw [if_pos (show asmP pp = true from has)]; show (followF pp mv).bind _ = none; rw [hfo]; show (if (0 ≤ ot ∧ ot < 6 * (pp.length : Int)) ∧ leavesP pp oo (ot / 6) (ot % 6) = true then _ else _) = none; rw [if_neg (fun h => cw h.1)]))
                clear has hfo cw HSN
                go_wp2
                clear hy1
                have HS_ := A0_ (Sp.drew HS.out)
                clear HS
                have HS := HS_
                clear HS_
                refine start_ (n := 29) (S := fun w' => w'.cell? ⟨gn, 0, none⟩ = some (.slice Aq pp.length cq) ∧ w'.cell? (ads.add (j * 2)) = some (.slice Am mv.length cm) ∧ w'.cell? ⟨(ads.add (j * 2)).block, (ads.add (j * 2)).off + 1, none⟩ = some (.int .i64 ot)) (ds := []) #[false, false, false, false, false, false, false, false, false, false, false, false, false, false, false, false, false, false, false, false, false, false, false, false, false, false, false, false, false] (by kernel_rfl) rfl rfl (⟨(blk_cell (Sp.blk HS.out (i := 3) rfl).1 0).trans rfl, pw_cell_below HS.out.below HY0.out, pw_cell_below HS.out.below HY1.out⟩) (fun hHeld => ?_)
                refine with_tabW sgsF.tab14 sgsF.bits14 (fun HT_ HW_ => ?_)
                generalize wA11.drew = wE at HS hHeld ⊢
                refine on_ 0 (some 55) ?_
                refine on_ 1 (some 56) ?_
                refine on_ 2 (some 57) ?_
                refine on_ 3 (some 58) ?_
                refine on_ 4 (some 59) ?_
                refine on_ 5 (some 60) ?_
                refine on_ 6 (some 61) ?_
                refine tk_ 7 (some 62) ?_
                refine on_ 8 (some 63) ?_
                refine tk_ 9 (some 64) ?_
                refine on_ 10 (some 65) ?_
                refine on_ 11 (some 66) ?_
                refine on_ 12 (some 67) ?_
                refine o1_ 13 (some 68) (fun K hK => ?_)
                refine goes_ Try.func45 (by kernel_rfl) rfl #[.int .i64 ot, .int .i64 0, .int .i64 (wrap64 (wrap64 (6 * (pp.length : Int)) - 1))] (by rfl) rfl rfl (by (try simp only [List.map_toArray, List.map_cons, List.map_nil]); first | done | rfl | (simp only [List.length_drop, List.length_take]; rfl)) ?_
                refine ((spec_l01In.calls ot 0 (wrap64 (wrap64 (6 * (pp.length : Int)) - 1)) false _ HWI.out).mono (fun e w2 h => And.intro h.1 h.2.below)).mono ?_
                rintro e wA21 ⟨rfl, hb⟩
                refine ⟨_, rfl, ?_⟩
                have HS_ := A0_ (Sp.far HS.out hb)
                clear HS
                have HS := HS_
                clear HS_
                clear hb
                refine hK.out _ _ (⟨(blk_cell (Sp.blk HS.out (i := 3) rfl).1 0).trans rfl, pw_cell_below HS.out.below HY0.out, pw_cell_below HS.out.below HY1.out⟩) (fun hHeld => ?_)
                clear hK K
                refine nm_ (some 68) ?_
                refine on_ 14 (some 69) ?_
                refine on_ 15 (some 70) ?_
                refine on_ 16 (some 71) ?_
                refine of_ 17 (some 72) ?_
                refine of_ 18 (some 73) ?_
                refine of_ 19 (some 74) ?_
                refine of_ 20 (some 75) ?_
                refine of_ 21 (some 76) ?_
                refine of_ 22 (some 77) ?_
                refine of_ 23 (some 78) ?_
                refine of_ 24 (some 79) ?_
                refine of_ 25 (some 80) ?_
                refine of_ 26 (some 81) ?_
                refine of_ 27 (some 82) ?_
                refine on_ 28 (some 83) ?_
                refine dn_ ?_
                go_wp2
                go_ret2
                rw [HOR.out, HDE.out]
                exact ⟨_, rfl, Kd.R_nil kI 2 _ _ _, HS.out.below⟩
            · have HDE := A0_ (show stagesF parts stages = none from stages_dead parts stages (j + 1) (by rw [HSN.out]; exact followX_dead (a := (nm, ou, pp)) (st := ⟨mv, ot⟩) HFX.out hcd))
              have z0 : (cd == 0) = false := by rw [beq_eq_false_iff_ne]; exact hcd
              have z1 : (cd != 0) = true := by rw [bne_iff_ne]; exact hcd
              have z2 : (cd = 0) = False := eq_false hcd
              clear hcd HSN
              go_wp2
              clear hy1
              have HS_ := A0_ (Sp.drew HS.out)
              clear HS
              have HS := HS_
              clear HS_
              refine start_ (n := 29) (S := fun w' => w'.cell? ⟨gn, 0, none⟩ = some (.slice Aq pp.length cq) ∧ w'.cell? (ads.add (j * 2)) = some (.slice Am mv.length cm) ∧ w'.cell? ⟨(ads.add (j * 2)).block, (ads.add (j * 2)).off + 1, none⟩ = some (.int .i64 ot)) (ds := []) #[false, false, false, false, false, false, false, false, false, false, false, false, false, false, false, false, false, false, false, false, false, false, false, false, false, false, false, false, false] (by kernel_rfl) rfl rfl (⟨(blk_cell (Sp.blk HS.out (i := 3) rfl).1 0).trans rfl, pw_cell_below HS.out.below HY0.out, pw_cell_below HS.out.below HY1.out⟩) (fun hHeld => ?_)
              refine with_tabW sgsF.tab14 sgsF.bits14 (fun HT_ HW_ => ?_)
              generalize wA11.drew = wE at HS hHeld ⊢
              refine on_ 0 (some 55) ?_
              refine on_ 1 (some 56) ?_
              refine on_ 2 (some 57) ?_
              refine of_ 3 (some 58) ?_
              refine of_ 4 (some 59) ?_
              refine of_ 5 (some 60) ?_
              refine of_ 6 (some 61) ?_
              refine of_ 7 (some 62) ?_
              refine of_ 8 (some 63) ?_
              refine of_ 9 (some 64) ?_
              refine of_ 10 (some 65) ?_
              refine of_ 11 (some 66) ?_
              refine of_ 12 (some 67) ?_
              refine of_ 13 (some 68) ?_
              refine of_ 14 (some 69) ?_
              refine on_ 15 (some 70) ?_
              refine on_ 16 (some 71) ?_
              refine of_ 17 (some 72) ?_
              refine of_ 18 (some 73) ?_
              refine of_ 19 (some 74) ?_
              refine of_ 20 (some 75) ?_
              refine of_ 21 (some 76) ?_
              refine of_ 22 (some 77) ?_
              refine of_ 23 (some 78) ?_
              refine of_ 24 (some 79) ?_
              refine of_ 25 (some 80) ?_
              refine of_ 26 (some 81) ?_
              refine of_ 27 (some 82) ?_
              refine on_ 28 (some 83) ?_
              refine dn_ ?_
              go_wp2
              go_ret2
              rw [HOR.out, HDE.out]
              exact ⟨_, rfl, Kd.R_nil kI 2 _ _ _, HS.out.below⟩
          · have cj0 : decide (j < stages.length) = false := decide_eq_false cj
            have q1 : ((j : Int) < (stages.length : Int)) = False := eq_false (by omega)
            have q2 : (j < stages.length) = False := eq_false cj
            have hj : j = stages.length := by have := HX.out.1; omega
            have HEN := A0_ (show stagesF parts stages = some (nm, ou, pp) by have h1 := HX.out.2.2.1; rw [hj, List.take_length] at h1; exact h1)
            clear cj hj
            go_wp2
            go_ret2
            rw [HOR.out, HEN.out]
            obtain ⟨fp_, hp_, _⟩ := Sp.get HS.out (i := 1) rfl
            exact ⟨_, rfl, Kd.R_mono hp_ (fun _ _ => trivial), HS.out.below⟩
  · have HOR := A0_ (show OR = ([], false) by rw [hOR]; unfold orderR; rw [if_neg c])
    have c0 : ((stages.length : Int) == (parts.length : Int) - 1) = false := by rw [beq_eq_false_iff_ne]; exact c
    have c1 : ((stages.length : Int) != (parts.length : Int) - 1) = true := by rw [bne_iff_ne]; exact c
    have c2 : ((stages.length : Int) = (parts.length : Int) - 1) = False := eq_false c
    clear hC hcp hz hS hcs hg hOR c
    go_enter Try.func61, Try.ntmps61
    go_wp2_with (first
      | ((with_reducible refine gate_dst (N := 2) rfl ?_); refine box_event ?hg (N := 2) ?hd (cs := #[.slice Ap parts.length cp]) (t := 32) ?hr ?_; (case hd => rfl); (case hg => rfl); (case hr => first | (go_simp; done) | (go_simp; rfl)); intro gn hgb_ wb_ hcb_ hbb_; have HS_ := A0_ (Sp.boxed HS.out hgb_ hcb_ hbb_); clear HS; have HS := HS_; clear HS_; clear hgb_ hcb_ hbb_; have ha0 := (blk_cell (Sp.blk HS.out (i := 0) rfl).1 0).trans rfl))
    go_ret2
    rw [HOR.out]
    exact ⟨_, rfl, Kd.R_nil kI 2 _ _ _, HS.out.below⟩
end Go.Proofs.Ytlbckkagjekhnaa.A

/- AreCorrect and StageOrder of both sides, walked. -/
namespace Go.Proofs.Ytlbckkagjekhnaa.A
open Go.RowKit Go.Proofs.YtlbckkagjekhnaaW.PrintWords Go.Proofs.YtlbckkagjekhnaaW.PrintLast Go.Proofs.YtlbckkagjekhnaaW.PrintMore
set_option linter.unusedVariables false
set_option linter.unusedSimpArgs false
def soR (parts : List (List Cb)) (stages : List Sg) : List Int × Int := if asmP parts = true then (if (orderR parts stages).2 = true then ((orderR parts stages).1, 0) else ([], 5)) else ([], 1)
set_option maxHeartbeats 4000000 in
set_option maxRecDepth 100000 in
theorem iOrd_calls (Ap : Option Addr) (cp : Nat) (parts : List (List Cb)) (As : Option Addr) (cs : Nat) (stages : List Sg) (w : World) (hC : kP.C w Ap parts.length parts) (hcp : parts.length ≤ cp) (hz : SzOk parts) (hS : k98.C w As stages.length stages) (hcs : stages.length ≤ cs) (hg : SgOk stages) :
    Calls Try.prog 38 #[.agg #[.slice Ap parts.length cp], .slice As stages.length cs] w fun e w' => ∃ v_ : Value, e = .returned (.tuple #[v_, .int .i64 (soR parts stages).2]) ∧ kI.R 2 w' w.heap.size (fun _ => True) v_ (soR parts stages).1 ∧ Below w.heap.size w w' := by
  have hu32 := Try.underlying32
  have HS := A0_ (Sp.start w)
  have HSO := A0_ (fun w' (hb : Below w.heap.size w w') => stageOrder_calls Ap cp parts As cs stages w' (Kd.C_below hC hb) hcp hz (Kd.C_below hS hb) hcs hg)
  have HIA := A0_ (fun w' (hb : Below w.heap.size w w') => iIsAsm_calls w' Ap cp parts (Kd.C_below hC hb) hz [] w' (Sp.start w'))
  have hac : soR parts stages = if asmP parts = true then (if (orderR parts stages).2 = true then ((orderR parts stages).1, 0) else ([], 5)) else ([], 1) := rfl
  obtain ⟨AC, hAC⟩ : ∃ AC, AC = soR parts stages := ⟨_, rfl⟩
  obtain ⟨ou, ok, hor⟩ : ∃ ou ok, orderR parts stages = (ou, ok) := ⟨_, _, rfl⟩
  obtain ⟨as_, has⟩ : ∃ a, a = asmP parts := ⟨_, rfl⟩
  rw [hor] at HSO hac
  dsimp only at HSO hac
  rw [← has] at HIA hac
  rw [← hAC] at hac ⊢
  have HAC := A0_ hac
  clear hC hcp hz hS hcs hg hor has hAC hac
  cases as_ with
  | false =>
    have HA2 := A0_ (HAC.out.trans (if_neg (by simp)))
    clear HAC
    go_enter Try.func38, Try.ntmps38
    go_wp2_with (first
      | ((with_reducible refine gate_dst (N := 2) rfl ?_); refine box_event ?hg (N := 2) ?hd (cs := #[.slice Ap parts.length cp]) (t := 32) ?hr ?_; (case hd => rfl); (case hg => rfl); (case hr => first | (go_simp; done) | (go_simp; rfl)); intro ga hgb_ wb_ hcb_ hbb_; have HS_ := A0_ (Sp.boxed HS.out hgb_ hcb_ hbb_); clear HS; have HS := HS_; clear HS_; clear hgb_ hcb_ hbb_; have ha0 := (blk_cell (Sp.blk HS.out (i := 0) rfl).1 0).trans rfl)
      | (go_at_call 56; go_loud (refine (HIA.out _ HS.out.below).mono ?_; rintro e wj_ ⟨rfl, hs_⟩; have HS_ := A0_ (Sp.far HS.out hs_.below); clear HS; have HS := HS_; clear HS_; clear hs_ ha0)))
    go_ret2
    rw [HA2.out]
    exact ⟨_, rfl, Kd.R_nil kI 2 _ _ _, HS.out.below⟩
  | true =>
    have HAC2 := A0_ (HAC.out.trans (if_pos rfl))
    clear HAC
    cases ok with
    | false =>
      have HA2 := A0_ (HAC2.out.trans (if_neg (by simp)))
      clear HAC2
      go_enter Try.func38, Try.ntmps38
      go_wp2_with (first
        | ((with_reducible refine gate_dst (N := 2) rfl ?_); refine box_event ?hg (N := 2) ?hd (cs := #[.slice Ap parts.length cp]) (t := 32) ?hr ?_; (case hd => rfl); (case hg => rfl); (case hr => first | (go_simp; done) | (go_simp; rfl)); intro ga hgb_ wb_ hcb_ hbb_; have HS_ := A0_ (Sp.boxed HS.out hgb_ hcb_ hbb_); clear HS; have HS := HS_; clear HS_; clear hgb_ hcb_ hbb_; have ha0 := (blk_cell (Sp.blk HS.out (i := 0) rfl).1 0).trans rfl)
        | (go_at_call 56; go_loud (refine (HIA.out _ HS.out.below).mono ?_; rintro e wj_ ⟨rfl, hs_⟩; have HS_ := A0_ (Sp.far HS.out hs_.below); clear HS; have HS := HS_; clear HS_; clear hs_ ha0; have ha0 := (blk_cell (Sp.blk HS.out (i := 0) rfl).1 0).trans rfl))
        | (go_at_call 63; go_loud (refine (HSO.out _ HS.out.below).mono ?_; rintro e wi_ ⟨v_, rfl, hr_, hb_⟩; have HS_ := A0_ (Sp.far HS.out hb_); clear HS; have HS := HS_; clear HS_; clear hr_ hb_ ha0)))
      go_ret2
      rw [HA2.out]
      exact ⟨_, rfl, Kd.R_nil kI 2 _ _ _, HS.out.below⟩
    | true =>
      have HA2 := A0_ (HAC2.out.trans (if_pos rfl))
      clear HAC2
      go_enter Try.func38, Try.ntmps38
      go_wp2_with (first
        | ((with_reducible refine gate_dst (N := 2) rfl ?_); refine box_event ?hg (N := 2) ?hd (cs := #[.slice Ap parts.length cp]) (t := 32) ?hr ?_; (case hd => rfl); (case hg => rfl); (case hr => first | (go_simp; done) | (go_simp; rfl)); intro ga hgb_ wb_ hcb_ hbb_; have HS_ := A0_ (Sp.boxed HS.out hgb_ hcb_ hbb_); clear HS; have HS := HS_; clear HS_; clear hgb_ hcb_ hbb_; have ha0 := (blk_cell (Sp.blk HS.out (i := 0) rfl).1 0).trans rfl)
        | (go_at_call 56; go_loud (refine (HIA.out _ HS.out.below).mono ?_; rintro e wj_ ⟨rfl, hs_⟩; have HS_ := A0_ (Sp.far HS.out hs_.below); clear HS; have HS := HS_; clear HS_; clear hs_ ha0; have ha0 := (blk_cell (Sp.blk HS.out (i := 0) rfl).1 0).trans rfl))
        | (go_at_call 63; go_loud (refine (HSO.out _ HS.out.below).mono ?_; rintro e wi_ ⟨v_, rfl, hr_, hb_⟩; have HS_ := A0_ (Sp.made' HS.out hb_ hr_); clear HS; have HS := HS_; clear HS_; clear hr_ hb_ ha0)))
      go_ret2
      rw [HA2.out]
      obtain ⟨fp_, hp_, _⟩ := Sp.get HS.out (i := 0) rfl
      exact ⟨_, rfl, Kd.R_mono hp_ (fun _ _ => trivial), HS.out.below⟩
set_option maxHeartbeats 4000000 in
set_option maxRecDepth 100000 in
theorem sOrd_calls (Ap : Option Addr) (cp : Nat) (parts : List (List Cb)) (As : Option Addr) (cs : Nat) (stages : List Sg) (w : World) (hC : kP.C w Ap parts.length parts) (hcp : parts.length ≤ cp) (hz : SzOk parts) (hS : k98.C w As stages.length stages) (hcs : stages.length ≤ cs) (hg : SgOk stages) :
    Calls Try.prog 37 #[.agg #[.slice Ap parts.length cp], .slice As stages.length cs] w fun e w' => ∃ v_ : Value, e = .returned (.tuple #[v_, .int .i64 (soR parts stages).2]) ∧ kI.R 2 w' w.heap.size (fun _ => True) v_ (soR parts stages).1 ∧ Below w.heap.size w w' := by
  have hu32 := Try.underlying32
  have HS := A0_ (Sp.start w)
  have HSO := A0_ (fun w' (hb : Below w.heap.size w w') => l29Follow_calls Ap cp parts As cs stages w' (Kd.C_below hC hb) hcp hz (Kd.C_below hS hb) hcs hg)
  have HIA := A0_ (fun w' (hb : Below w.heap.size w w') => sIsAsm_calls Ap cp parts w' (Kd.C_below hC hb) hcp hz)
  have hac : soR parts stages = if asmP parts = true then (if (orderR parts stages).2 = true then ((orderR parts stages).1, 0) else ([], 5)) else ([], 1) := rfl
  obtain ⟨AC, hAC⟩ : ∃ AC, AC = soR parts stages := ⟨_, rfl⟩
  obtain ⟨ou, ok, hor⟩ : ∃ ou ok, orderR parts stages = (ou, ok) := ⟨_, _, rfl⟩
  obtain ⟨as_, has⟩ : ∃ a, a = asmP parts := ⟨_, rfl⟩
  rw [hor] at HSO hac
  dsimp only at HSO hac
  rw [← has] at HIA hac
  rw [← hAC] at hac ⊢
  have HAC := A0_ hac
  clear hC hcp hz hS hcs hg hor has hAC hac
  cases as_ with
  | false =>
    have HA2 := A0_ (HAC.out.trans (if_neg (by simp)))
    clear HAC
    go_enter Try.func37, Try.ntmps37
    go_wp2_with (first
      | ((with_reducible refine gate_dst (N := 2) rfl ?_); refine box_event ?hg (N := 2) ?hd (cs := #[.slice Ap parts.length cp]) (t := 32) ?hr ?_; (case hd => rfl); (case hg => rfl); (case hr => first | (go_simp; done) | (go_simp; rfl)); intro ga hgb_ wb_ hcb_ hbb_; have HS_ := A0_ (Sp.boxed HS.out hgb_ hcb_ hbb_); clear HS; have HS := HS_; clear HS_; clear hgb_ hcb_ hbb_; have ha0 := (blk_cell (Sp.blk HS.out (i := 0) rfl).1 0).trans rfl)
      | (go_at_call 54; go_loud (refine (HIA.out _ HS.out.below).mono ?_; rintro e wj_ ⟨rfl, hb_⟩; have HS_ := A0_ (Sp.far HS.out hb_); clear HS; have HS := HS_; clear HS_; clear hb_ ha0)))
    go_ret2
    rw [HA2.out]
    exact ⟨_, rfl, Kd.R_nil kI 2 _ _ _, HS.out.below⟩
  | true =>
    have HAC2 := A0_ (HAC.out.trans (if_pos rfl))
    clear HAC
    cases ok with
    | false =>
      have HA2 := A0_ (HAC2.out.trans (if_neg (by simp)))
      clear HAC2
      go_enter Try.func37, Try.ntmps37
      go_wp2_with (first
        | ((with_reducible refine gate_dst (N := 2) rfl ?_); refine box_event ?hg (N := 2) ?hd (cs := #[.slice Ap parts.length cp]) (t := 32) ?hr ?_; (case hd => rfl); (case hg => rfl); (case hr => first | (go_simp; done) | (go_simp; rfl)); intro ga hgb_ wb_ hcb_ hbb_; have HS_ := A0_ (Sp.boxed HS.out hgb_ hcb_ hbb_); clear HS; have HS := HS_; clear HS_; clear hgb_ hcb_ hbb_; have ha0 := (blk_cell (Sp.blk HS.out (i := 0) rfl).1 0).trans rfl)
        | (go_at_call 54; go_loud (refine (HIA.out _ HS.out.below).mono ?_; rintro e wj_ ⟨rfl, hb_⟩; have HS_ := A0_ (Sp.far HS.out hb_); clear HS; have HS := HS_; clear HS_; clear hb_ ha0; have ha0 := (blk_cell (Sp.blk HS.out (i := 0) rfl).1 0).trans rfl))
        | (go_at_call 61; go_loud (refine (HSO.out _ HS.out.below).mono ?_; rintro e wi_ ⟨v_, rfl, hr_, hb_⟩; have HS_ := A0_ (Sp.far HS.out hb_); clear HS; have HS := HS_; clear HS_; clear hr_ hb_ ha0)))
      go_ret2
      rw [HA2.out]
      exact ⟨_, rfl, Kd.R_nil kI 2 _ _ _, HS.out.below⟩
    | true =>
      have HA2 := A0_ (HAC2.out.trans (if_pos rfl))
      clear HAC2
      go_enter Try.func37, Try.ntmps37
      go_wp2_with (first
        | ((with_reducible refine gate_dst (N := 2) rfl ?_); refine box_event ?hg (N := 2) ?hd (cs := #[.slice Ap parts.length cp]) (t := 32) ?hr ?_; (case hd => rfl); (case hg => rfl); (case hr => first | (go_simp; done) | (go_simp; rfl)); intro ga hgb_ wb_ hcb_ hbb_; have HS_ := A0_ (Sp.boxed HS.out hgb_ hcb_ hbb_); clear HS; have HS := HS_; clear HS_; clear hgb_ hcb_ hbb_; have ha0 := (blk_cell (Sp.blk HS.out (i := 0) rfl).1 0).trans rfl)
        | (go_at_call 54; go_loud (refine (HIA.out _ HS.out.below).mono ?_; rintro e wj_ ⟨rfl, hb_⟩; have HS_ := A0_ (Sp.far HS.out hb_); clear HS; have HS := HS_; clear HS_; clear hb_ ha0; have ha0 := (blk_cell (Sp.blk HS.out (i := 0) rfl).1 0).trans rfl))
        | (go_at_call 61; go_loud (refine (HSO.out _ HS.out.below).mono ?_; rintro e wi_ ⟨v_, rfl, hr_, hb_⟩; have HS_ := A0_ (Sp.made' HS.out hb_ hr_); clear HS; have HS := HS_; clear HS_; clear hr_ hb_ ha0)))
      go_ret2
      rw [HA2.out]
      obtain ⟨fp_, hp_, _⟩ := Sp.get HS.out (i := 0) rfl
      exact ⟨_, rfl, Kd.R_mono hp_ (fun _ _ => trivial), HS.out.below⟩
end Go.Proofs.Ytlbckkagjekhnaa.A

namespace Go.Proofs.Ytlbckkagjekhnaa.A
open Go.RowKit Go.Proofs.YtlbckkagjekhnaaW.PrintWords Go.Proofs.YtlbckkagjekhnaaW.PrintLast Go.Proofs.YtlbckkagjekhnaaW.PrintMore
attribute [local go_sem] max2_int min2_int max_two min_two max_three min_three max_four min_four   -- for this text's walks alone
set_option linter.unusedVariables false
set_option linter.unusedSimpArgs false
def laws_szInt64S.f (l0 : List Int) (a1 : Int) : Option (Int) := if (wrap64 (a1 - (l0.length : Int))) < 0 then (some (-1)) else (some (wrap64 (a1 - (l0.length : Int))))
set_option maxHeartbeats 8000000 in
set_option maxRecDepth 100000 in
theorem laws_szInt64S.calls (A0 : Option Addr) (c0 : Nat) (l0 : List Int) (a1 : Int) (r : Int) (w : World) (hr0 : Kd.C (Kd.int .i64) w A0 l0.length l0) (hc0 : l0.length ≤ c0) (h : laws_szInt64S.f l0 a1 = some r) :
    Calls Try.prog 89 #[.slice A0 l0.length c0, .int .i64 a1] w fun e w' => e = .returned (.int .i64 r) ∧ Drawn0 w w' := by
 (have HR0 := A0_ hr0); (have HC0 := A0_ hc0); clear hr0 hc0; (have H : (if (wrap64 (a1 - (l0.length : Int))) < 0 then (some (-1)) else (some (wrap64 (a1 - (l0.length : Int))))) = some r := h); clear h; (by_cases c3 : (wrap64 (a1 - (l0.length : Int))) < 0)
 ·(rw [if_pos c3] at H); (have c3b0 : decide ((wrap64 (a1 - (l0.length : Int))) < 0) = true := decide_eq_true c3); clear c3; (obtain rfl := Option.some.inj H); (go_enter Try.func89, Try.ntmps89); go_wp2; go_ret; (exact ⟨by first | rfl | (simp; done) | (simp [*]; done), by repeat (first | exact Drawn0.refl _ | apply Drawn0.step)⟩)
 ·(rw [if_neg c3] at H); (have c3b0 : decide ((wrap64 (a1 - (l0.length : Int))) < 0) = false := decide_eq_false c3); clear c3; (obtain rfl := Option.some.inj H); (go_enter Try.func89, Try.ntmps89); go_wp2; go_ret; (exact ⟨by first | rfl | (simp; done) | (simp [*]; done), by repeat (first | exact Drawn0.refl _ | apply Drawn0.step)⟩)
end Go.Proofs.Ytlbckkagjekhnaa.A

namespace Go.Proofs.Ytlbckkagjekhnaa.A
open Go.RowKit Go.Proofs.YtlbckkagjekhnaaW.PrintWords Go.Proofs.YtlbckkagjekhnaaW.PrintLast Go.Proofs.YtlbckkagjekhnaaW.PrintMore
attribute [local go_sem] max2_int min2_int max_two min_two max_three min_three max_four min_four   -- for this text's walks alone
set_option linter.unusedVariables false
set_option linter.unusedSimpArgs false
def laws_szStage.f (l0_0 : List Int) (a0_1 : Int) (a1 : Int) : Option (Int) := (laws_szInt64S.f l0_0 a1).bind fun t481 => (if t481 < 0 then (some (-1)) else (some t481))
set_option maxHeartbeats 8000000 in
set_option maxRecDepth 100000 in
theorem laws_szStage.calls (A0_0 : Option Addr) (c0_0 : Nat) (l0_0 : List Int) (a0_1 : Int) (a1 : Int) (r : Int) (w : World) (hr0_0 : Kd.C (Kd.int .i64) w A0_0 l0_0.length l0_0) (hc0_0 : l0_0.length ≤ c0_0) (h : laws_szStage.f l0_0 a0_1 a1 = some r) :
    Calls Try.prog 60 #[.agg #[.slice A0_0 l0_0.length c0_0, .int .i64 a0_1], .int .i64 a1] w fun e w' => e = .returned (.int .i64 r) ∧ Below w.heap.size w w' := by
 (have hu95 := Try.underlying95); (have HR0_0 := A0_ hr0_0); (have HC0_0 := A0_ hc0_0); clear hr0_0 hc0_0; (have HB := A0_ (Below.refl w.heap.size w))
 have H : ((laws_szInt64S.f l0_0 a1).bind fun t481 => (if t481 < 0 then (some (-1)) else (some t481))) = some r := h
 clear h; (replace H := Option.bind_eq_some_iff.mp H); (obtain ⟨t481, A30, H⟩ := H); (try dsimp only at H); (have A3 := A0_ A30); clear A30; (have H0_ := A0_ H); clear H; (go_enter Try.func60, Try.ntmps60); (go_wp2_with (first | ((with_reducible refine gate_dst (N := 2) rfl ?_); refine box_event ?hg (N := 2) ?hd (cs := #[.slice A0_0 l0_0.length c0_0, .int .i64 a0_1]) (t := 95) ?hr ?_; (case hd => rfl); (case hg => rfl); (case hr => first | (go_simp; done) | (go_simp; rfl)); intro gb480 hg w4 hbox hb; have n0_ := A0_ (below_step (by repeat (first | (with_reducible first | exact HB.out | apply ba_ | apply bn_ | apply bd_) | exact HB.out)) hb); have n1_ := A0_ (hbox); have n2_ := A0_ ((by rw [hg]; exact (below_size (by repeat (first | (with_reducible first | exact HB.out | apply ba_ | apply bn_ | apply bd_) | exact HB.out))) : w.heap.size ≤ gb480)); have n3_ := A0_ ((by rw [hg]; exact (below_size (by repeat (first | (with_reducible first | exact HB.out | apply ba_ | apply bn_ | apply bd_) | exact HB.out))) : w.heap.size ≤ gb480)); clear HB; have HB := n0_; have BK480 := n1_; have GW480 := n2_; have GE480 := n3_; clear n0_ n1_ n2_ n3_; clear hb hbox hg; have hcz5_0 : w4.cell? ⟨gb480, 0, none⟩ = some (.slice A0_0 l0_0.length c0_0) := (blk_cell BK480.out 0).trans rfl; have hcz5_1 : w4.cell? ⟨gb480, 1, none⟩ = some (.int .i64 a0_1) := (blk_cell BK480.out 1).trans rfl; have hfz5_0 := blk_frozen BK480.out 0; have hfz5_1 := blk_frozen BK480.out 1) | ((with_reducible refine gate_callee (f := 89) rfl ?_); refine goesL_ (some 8) rfl rfl Try.func89 (by kernel_rfl) rfl #[.slice A0_0 l0_0.length c0_0, .int .i64 a1] rfl (by (try simp only [List.map_toArray, List.map_cons, List.map_nil]); first | done | rfl | (simp only [List.length_drop, List.length_take]; rfl)) ?_; (with_reducible refine (laws_szInt64S.calls _ _ l0_0 a1 t481 _ ?side1 ?side2 A3.out).mono ?_); (case side1 => repeat (first | exact (Kd.C_below HR0_0.out HB.out) | (with_reducible refine Kd.C_alloc ?_ _) | (with_reducible refine Kd.C_drewN ?_ _) | (with_reducible refine Kd.C_drew ?_))); (case side2 => exact HC0_0.out); rintro e w' ⟨rfl, ⟨nd, rfl⟩⟩; refine ⟨_, rfl, ?_⟩; refine Stop0.out ?_))); (refine Stop0.mk ?_); (have H := H0_.out); clear H0_; (by_cases c6 : t481 < 0)
 ·(rw [if_pos c6] at H); (have c6b0 : decide (t481 < 0) = true := decide_eq_true c6); clear c6; (obtain rfl := Option.some.inj H); go_wp2; go_ret; (exact ⟨by first | rfl | (simp [errW_none, errW_some] <;> rfl) | (simp [*, errW_none, errW_some] <;> rfl), by repeat (first | (with_reducible first | exact HB.out | apply ba_ | apply bn_ | apply bd_ | refine below_set ?_ GE480.out) | exact HB.out)⟩)
 ·(rw [if_neg c6] at H); (have c6b0 : decide (t481 < 0) = false := decide_eq_false c6); clear c6; (obtain rfl := Option.some.inj H); go_wp2; go_ret; (exact ⟨by first | rfl | (simp [errW_none, errW_some] <;> rfl) | (simp [*, errW_none, errW_some] <;> rfl), by repeat (first | (with_reducible first | exact HB.out | apply ba_ | apply bn_ | apply bd_ | refine below_set ?_ GE480.out) | exact HB.out)⟩)
end Go.Proofs.Ytlbckkagjekhnaa.A

namespace Go.Proofs.Ytlbckkagjekhnaa.A
open Go.RowKit Go.Proofs.YtlbckkagjekhnaaW.PrintWords Go.Proofs.YtlbckkagjekhnaaW.PrintLast Go.Proofs.YtlbckkagjekhnaaW.PrintMore
attribute [local go_sem] max2_int min2_int max_two min_two max_three min_three max_four min_four   -- for this text's walks alone
set_option linter.unusedVariables false
set_option linter.unusedSimpArgs false
def laws_szStageS.l0 : Nat → List (S95) → Int → Int → Option (Int)
  | 0, _, _, _ => none
  | k + 1, x0, x1, x5 => if x5 < (x0.length : Int) then (if 0 ≤ x5 then ((laws_szStage.f ((rd_T95 x0 x5).f0) ((rd_T95 x0 x5).f1) x1).bind fun t483 => (if t483 < 0 then (some (-1)) else (laws_szStageS.l0 k x0 t483 (wrap64 (x5 + 1))))) else (none)) else (some x1)
def laws_szStageS.f (k : Nat) (l0 : List (S95)) (a1 : Int) : Option (Int) := if (wrap64 (a1 - (l0.length : Int))) < 0 then (some (-1)) else (laws_szStageS.l0 k l0 (wrap64 (a1 - (l0.length : Int))) 0)
set_option maxHeartbeats 8000000 in
set_option maxRecDepth 100000 in
theorem laws_szStageS.calls (k : Nat) (A0 : Option Addr) (c0 : Nat) (l0 : List (S95)) (a1 : Int) (r : Int) (w : World) (hr0 : Kd.C k95 w A0 l0.length l0) (hc0 : l0.length ≤ c0) (h : laws_szStageS.f k l0 a1 = some r) :
    Calls Try.prog 27 #[.slice A0 l0.length c0, .int .i64 a1] w fun e w' => e = .returned (.int .i64 r) ∧ Below w.heap.size w w' := by
 (have hu95 := Try.underlying95); (have HR0 := A0_ hr0); (have HC0 := A0_ hc0); clear hr0 hc0; (have HB := A0_ (Below.refl w.heap.size w)); (have H : (if (wrap64 (a1 - (l0.length : Int))) < 0 then (some (-1)) else (laws_szStageS.l0 k l0 (wrap64 (a1 - (l0.length : Int))) 0)) = some r := h); clear h; (by_cases c3 : (wrap64 (a1 - (l0.length : Int))) < 0)
 ·(rw [if_pos c3] at H); (have c3b0 : decide ((wrap64 (a1 - (l0.length : Int))) < 0) = true := decide_eq_true c3); clear c3; (obtain rfl := Option.some.inj H); (go_enter Try.func27, Try.ntmps27); go_wp2; go_ret; (exact ⟨by first | rfl | (simp [errW_none, errW_some] <;> rfl) | (simp [*, errW_none, errW_some] <;> rfl), by repeat (first | (with_reducible first | exact HB.out | apply ba_ | apply bn_ | apply bd_) | exact HB.out)⟩)
 ·(rw [if_neg c3] at H); (have c3b0 : decide ((wrap64 (a1 - (l0.length : Int))) < 0) = false := decide_eq_false c3); clear c3; (have H' := A0_ H); clear H; (go_enter Try.func27, Try.ntmps27); go_wp2
  go_loopg [1, 5] k (fun kq v1 v5 w' => ∃ (x1_1 : Int) (x5_1 : Int), v1 = .int .i64 x1_1 ∧ v5 = .int .i64 x5_1 ∧ Aside0 (laws_szStageS.l0 kq l0 x1_1 x5_1 = some r) ∧ Aside0 (kq ≤ k) ∧ Aside0 (Below w.heap.size w w'))
  case atStart => exact ⟨(wrap64 (a1 - (l0.length : Int))), (0), (by first | rfl | (simp; done) | (simp [*]; done)), (by first | rfl | (simp; done) | (simp [*]; done)), H', ⟨Nat.le_refl _⟩, ⟨by repeat (first | (with_reducible first | exact HB.out | apply ba_ | apply bn_ | apply bd_) | exact HB.out)⟩⟩
  case round =>
   clear H'; (try clear c2); (try clear p2); (try clear c3); (try clear c3b0); (obtain ⟨x1_1, x5_1, rfl, rfl, HA, HK1, HB⟩ := hrel)
   cases gk with
   | zero => exact absurd HA.out (by simp [laws_szStageS.l0])
   | succ k1 =>
    (have H := HA.out); clear HA; (simp only [laws_szStageS.l0] at H); (by_cases c4 : x5_1 < (l0.length : Int))
    ·(rw [if_pos c4] at H); (have c4b0 : decide (x5_1 < (l0.length : Int)) = true := decide_eq_true c4); clear c4; (by_cases c5 : 0 ≤ x5_1)
     ·(rw [if_pos c5] at H); (have c5b0 : decide (0 ≤ x5_1) = true := decide_eq_true c5); clear c5; (replace H := Option.bind_eq_some_iff.mp H); (obtain ⟨t483, A60, H⟩ := H); (try dsimp only at H); (have A6 := A0_ A60); clear A60; (have H0_ := A0_ H); clear H; (have p482 : 0 ≤ (x5_1 : Int) := of_decide_eq_true (by first | (with_reducible assumption) | assumption)); (have q482 : x5_1 < (l0.length : Int) := of_decide_eq_true (by first | (with_reducible assumption) | assumption)); (obtain ⟨ad482, A482_0, c482_0, e482, hx482_0, hx482_1, hl482_0, hi482_0⟩ := at_T95 HR0.out x5_1 p482 q482); (cases e482); (replace hx482_0 := (HB.out.cell (World.block_lt_of_cell? w _ hx482_0)).trans hx482_0); (replace hx482_1 := (HB.out.cell (World.block_lt_of_cell? w _ hx482_1)).trans hx482_1); (have HR482_0 := A0_ hi482_0); (have HC482_0 := A0_ hl482_0); clear hi482_0 hl482_0; (replace p482 := eq_true p482); (replace q482 := eq_true q482); (go_wp2_with (first | ((with_reducible refine gate_callee (f := 60) rfl ?_); refine goesL_ (some 23) rfl rfl Try.func60 (by kernel_rfl) rfl #[.agg #[.slice A482_0 ((rd_T95 l0 x5_1).f0).length c482_0, .int .i64 ((rd_T95 l0 x5_1).f1)], .int .i64 x1_1] rfl (by (try simp only [List.map_toArray, List.map_cons, List.map_nil]); first | done | rfl | (simp only [List.length_drop, List.length_take]; rfl)) ?_; (with_reducible refine (laws_szStage.calls _ _ ((rd_T95 l0 x5_1).f0) ((rd_T95 l0 x5_1).f1) x1_1 t483 _ ?side1 ?side2 A6.out).mono ?_); (case side1 => repeat (first | exact (Kd.C_below HR482_0.out HB.out) | (with_reducible refine Kd.C_alloc ?_ _) | (with_reducible refine Kd.C_drewN ?_ _) | (with_reducible refine Kd.C_drew ?_))); (case side2 => exact HC482_0.out); rintro e w7 ⟨rfl, hb⟩; refine ⟨_, rfl, ?_⟩; have n0_ := A0_ (below_step (by repeat (first | (with_reducible first | exact HB.out | apply ba_ | apply bn_ | apply bd_) | exact HB.out)) hb); clear HB; have HB := n0_; clear n0_; (try clear hb); (try clear hb2); (try clear hk); (try clear hi); refine Stop0.out ?_))); (refine Stop0.mk ?_); (have H := H0_.out); clear H0_; (by_cases c8 : t483 < 0)
      ·(rw [if_pos c8] at H); (have c8b0 : decide (t483 < 0) = true := decide_eq_true c8); clear c8; (obtain rfl := Option.some.inj H); go_wp2; go_ret; (exact ⟨by first | rfl | (simp [errW_none, errW_some] <;> rfl) | (simp [*, errW_none, errW_some] <;> rfl), by repeat (first | (with_reducible first | exact HB.out | apply ba_ | apply bn_ | apply bd_) | exact HB.out)⟩)
      ·(rw [if_neg c8] at H); (have c8b0 : decide (t483 < 0) = false := decide_eq_false c8); clear c8; (have H' := A0_ H); clear H; go_wp2; (go_roundg k1)
       case measure => have := HK1.out; omega
       case rel => exact ⟨(t483), (wrap64 (x5_1 + 1)), (by first | rfl | (simp; done) | (simp [*]; done)), (by first | rfl | (simp; done) | (simp [*]; done)), H', ⟨by have := HK1.out; omega⟩, ⟨by repeat (first | (with_reducible first | exact HB.out | apply ba_ | apply bn_ | apply bd_) | exact HB.out)⟩⟩
     ·(rw [if_neg c5] at H); (exact absurd H (by simp))
    ·(rw [if_neg c4] at H); (have c4b0 : decide (x5_1 < (l0.length : Int)) = false := decide_eq_false c4); clear c4; (obtain rfl := Option.some.inj H); go_wp2; go_ret; (exact ⟨by first | rfl | (simp [errW_none, errW_some] <;> rfl) | (simp [*, errW_none, errW_some] <;> rfl), by repeat (first | (with_reducible first | exact HB.out | apply ba_ | apply bn_ | apply bd_) | exact HB.out)⟩)
end Go.Proofs.Ytlbckkagjekhnaa.A

namespace Go.Proofs.Ytlbckkagjekhnaa.A
open Go.RowKit Go.Proofs.YtlbckkagjekhnaaW.PrintWords Go.Proofs.YtlbckkagjekhnaaW.PrintLast Go.Proofs.YtlbckkagjekhnaaW.PrintMore
attribute [local go_sem] max2_int min2_int max_two min_two max_three min_three max_four min_four   -- for this text's walks alone
set_option linter.unusedVariables false
set_option linter.unusedSimpArgs false
def laws_toInt64S.l0 : Nat → List Int → List Int → Int → Option (List Int)
  | 0, _, _, _ => none
  | k + 1, x0, x3, x4 => if x4 < (x0.length : Int) then (if 0 ≤ x4 then (if x4 < (x3.length : Int) then (laws_toInt64S.l0 k x0 (x3.set (x4 : Int).toNat (rd x0 x4)) (wrap64 (x4 + 1))) else (none)) else (none)) else (some x3)
def laws_toInt64S.f (k : Nat) (l0 : List Int) : Option (List Int) := if 0 ≤ (l0.length : Int) then (if ((l0.length : Int) : Int).toNat ≤ 35184372088832 then (laws_toInt64S.l0 k l0 (List.replicate ((l0.length : Int) : Int).toNat 0) 0) else (none)) else (none)
set_option maxHeartbeats 8000000 in
set_option maxRecDepth 100000 in
theorem laws_toInt64S.calls (k : Nat) (A0 : Option Addr) (c0 : Nat) (l0 : List Int) (r : List Int) (w : World) (hr0 : Kd.C (Kd.int .i64) w A0 l0.length l0) (hc0 : l0.length ≤ c0) (h : laws_toInt64S.f k l0 = some r) :
    Calls Try.prog 92 #[.slice A0 l0.length c0] w fun e w' => ∃ v0_ : Value, e = .returned (v0_) ∧ Kd.R (Kd.int .i64) 2 w' w.heap.size (fun _ => True) v0_ r ∧ Below w.heap.size w w' := by
 (have HR0 := A0_ hr0); (have HC0 := A0_ hc0); clear hr0 hc0; (have HB := A0_ (Below.refl w.heap.size w)); (have H : (if 0 ≤ (l0.length : Int) then (if ((l0.length : Int) : Int).toNat ≤ 35184372088832 then (laws_toInt64S.l0 k l0 (List.replicate ((l0.length : Int) : Int).toNat 0) 0) else (none)) else (none)) = some r := h); clear h; (by_cases c2 : 0 ≤ (l0.length : Int))
 ·(rw [if_pos c2] at H); (have c2b0 := eq_true c2); (have c2b1 : decide (0 ≤ (l0.length : Int)) = true := decide_eq_true c2); clear c2; (by_cases c3 : ((l0.length : Int) : Int).toNat ≤ 35184372088832)
  ·(rw [if_pos c3] at H); (have c3b0 := eq_true c3); (have c3b1 : decide (((l0.length : Int) : Int).toNat ≤ 35184372088832) = true := decide_eq_true c3); clear c3; (obtain ⟨y545, hy545⟩ : ∃ y_ : List Int, y_ = (List.replicate ((l0.length : Int) : Int).toNat 0) := ⟨_, rfl⟩); (replace H : (laws_toInt64S.l0 k l0 y545 0) = some r := by first | (rw [hy545]; with_reducible exact H) | (have H2_ := (Option.bind_some _ _).symm.trans H; rw [hy545]; with_reducible exact H2_) | (have H2_ := (Option.bind_some _ _).symm.trans H; with_reducible exact H2_) | with_reducible exact H | (rw [hy545]; exact H) | exact H); (have Ny545 := A0_ hy545); clear hy545; (have H' := A0_ H); clear H; (go_enter Try.func92, Try.ntmps92)
   go_wp2_with (first | ((with_reducible refine gate_dst (N := 7) rfl ?_); refine Kd.R_make (Kd.int .i64) _ 2 rfl (N := 7) rfl 53 _ _ rfl (l0.length : Int) rfl rfl Try.underlying53 (.int .i64 0) 8 info2 rfl (by decide) (by omega) 0 (ok := fun _ => True) (okp := fun _ => True) rfl (fun _ hk => hk) trivial (of_decide_eq_true (by first | (with_reducible assumption) | assumption)) (Nat.le_trans (Nat.mul_le_mul_right _ (of_decide_eq_true (by first | (with_reducible assumption) | assumption) : (l0.length : Int).toNat ≤ 35184372088832)) (by omega)) (Below.refl _ _) (Nat.le_refl _) ?_; intro v546 w4 ho5 hb hg_ hnew_; clear hg_ hnew_; (first | rw [← Ny545.out] at ho5 | (simp only [Int.reduceToNat] at ho5; rw [← Ny545.out] at ho5)); have n0_ := A0_ (Kd.R_lower ho5 (below_size (by repeat (first | (with_reducible first | exact HB.out | apply ba_ | apply bn_ | apply bd_) | exact HB.out)))); have n1_ := A0_ (below_step (by repeat (first | (with_reducible first | exact HB.out | apply ba_ | apply bn_ | apply bd_) | exact HB.out)) hb); clear HB; have HO547 := n0_; have HB := n1_; clear n0_ n1_; clear hb ho5))
   go_loopg [4] k (fun kq v4 w' => ∃ (x3_1 : List Int) (x4_1 : Int), v4 = .int .i64 x4_1 ∧ Aside0 (laws_toInt64S.l0 kq l0 x3_1 x4_1 = some r) ∧ Aside0 (kq ≤ k) ∧ Aside0 (Kd.R (Kd.int .i64) 2 w' w.heap.size (fun _ => True) v546 x3_1) ∧ Aside0 (Below w.heap.size w w'))
   case atStart => exact ⟨(y545), (0), (by first | rfl | (simp; done) | (simp [*]; done)), H', ⟨Nat.le_refl _⟩, ⟨by (with_reducible repeat (first | apply Ra_ | apply Rn_ | apply Rd_)); exact HO547.out⟩, ⟨by repeat (first | (with_reducible first | exact HB.out | apply ba_ | apply bn_ | apply bd_) | exact HB.out)⟩⟩
   case round =>
    clear H'; (try clear c2); (try clear c2b0); (try clear c2b1); (try clear p2); (try clear c3); (try clear c3b0); (try clear c3b1); (obtain ⟨x3_1, x4_1, rfl, HA, HK1, HO_3, HB⟩ := hrel)
    cases gk with
    | zero => exact absurd HA.out (by simp [laws_toInt64S.l0])
    | succ k1 =>
     (have H := HA.out); clear HA; (simp only [laws_toInt64S.l0] at H); (by_cases c6 : x4_1 < (l0.length : Int))
     ·(rw [if_pos c6] at H); (have c6b0 : decide (x4_1 < (l0.length : Int)) = true := decide_eq_true c6); clear c6; (by_cases c7 : 0 ≤ x4_1)
      ·(rw [if_pos c7] at H); (have c7b0 : decide (0 ≤ x4_1) = true := decide_eq_true c7); clear c7; (by_cases c8 : x4_1 < (x3_1.length : Int))
       ·(rw [if_pos c8] at H); (have c8b0 : decide (x4_1 < (x3_1.length : Int)) = true := decide_eq_true c8); clear c8; (obtain ⟨y549, hy549⟩ : ∃ y_ : List Int, y_ = (x3_1.set (x4_1 : Int).toNat (rd l0 x4_1)) := ⟨_, rfl⟩); (replace H : (laws_toInt64S.l0 k1 l0 y549 (wrap64 (x4_1 + 1))) = some r := by first | (rw [hy549]; with_reducible exact H) | (have H2_ := (Option.bind_some _ _).symm.trans H; rw [hy549]; with_reducible exact H2_) | (have H2_ := (Option.bind_some _ _).symm.trans H; with_reducible exact H2_) | with_reducible exact H | (rw [hy549]; exact H) | exact H); (have Ny549 := A0_ hy549); clear hy549; (have H' := A0_ H); clear H; (have p548 : 0 ≤ (x4_1 : Int) := of_decide_eq_true (by first | (with_reducible assumption) | assumption)); (have q548 : x4_1 < (l0.length : Int) := of_decide_eq_true (by first | (with_reducible assumption) | assumption)); (obtain ⟨ad548, e548, hx548_0⟩ := Kd.at_int HR0.out x4_1 p548 q548); (cases e548); (replace hx548_0 := (HB.out.cell (World.block_lt_of_cell? w _ hx548_0)).trans hx548_0); (replace p548 := eq_true p548); (replace q548 := eq_true q548); (have p9 : 0 ≤ (x4_1 : Int) := of_decide_eq_true (by first | (with_reducible assumption) | assumption)); (have q9 : (x4_1 : Int) < ((x3_1.length : Int) : Int) := of_decide_eq_true (by first | (with_reducible assumption) | assumption)); (obtain ⟨go9, co9, eo9, gb9, gl9, cl9, HG9⟩ := Kd.R_form HO_3.out (by omega)); ((first | cases eo9 | (injection eo9 with ea_ en_ ec_; (first | subst ea_ | (injection ea_ with ea_; subst ea_)); subst ec_; clear en_))); (have GB9 := A0_ gb9); (have GG9 := A0_ HG9); clear gb9 gl9 HG9; (obtain ⟨hx9_0, hf9_0⟩ := Kd.R_celln 0 HO_3.out (x4_1 : Int) p9 q9); (replace p9 := eq_true p9); (replace q9 := eq_true q9); (have HP10 := Kd.R_putg HO_3.out (x4_1 : Int) (rd l0 x4_1))
        go_wp2_with (first | ((with_reducible refine gate_store (t := 2) (p := 20) rfl ?_); refine store_event (t := 2) (p := 20) (v := ?vo_w11) (w1 := (wr.setCell ⟨go9, (x4_1 : Int).toNat, none⟩ (.int .i64 (rd l0 x4_1)))) ?hg ?ho ?hn ?hr ?_; (case ho => rfl); (case hg => rfl); (case hn => rfl); (case hr => first | (go_simp; done) | (go_simp; rfl)); intro w11 hw; have hg : wr.grownBy w11 (some go9) := (by rw [hw]; exact HP10.2); have hp_ : Kd.R (Kd.int .i64) 2 w11 w.heap.size (fun _ => True) (.slice (some ⟨go9, 0, none⟩) x3_1.length co9) y549 := (by rw [hw, Ny549.out]; exact HP10.1); clear HP10; have n0_ := A0_ (hp_); have n1_ := A0_ ((by rw [hw]; exact below_set (HB.out) GB9.out : Below w.heap.size w w11)); clear HO_3; clear HB; have HO_3 := n0_; have HB := n1_; clear n0_ n1_; clear hg hw hp_))
        (go_roundg k1)
        case measure => have := HK1.out; omega
        case rel => exact ⟨(y549), (wrap64 (x4_1 + 1)), (by first | rfl | (simp; done) | (simp [*]; done)), H', ⟨by have := HK1.out; omega⟩, ⟨by (with_reducible repeat (first | apply Ra_ | apply Rn_ | apply Rd_)); exact HO_3.out⟩, ⟨by repeat (first | (with_reducible first | exact HB.out | apply ba_ | apply bn_ | apply bd_) | exact HB.out)⟩⟩
       ·(rw [if_neg c8] at H); (exact absurd H (by simp))
      ·(rw [if_neg c7] at H); (exact absurd H (by simp))
     ·(rw [if_neg c6] at H); (have c6b0 : decide (x4_1 < (l0.length : Int)) = false := decide_eq_false c6); clear c6; (obtain rfl := Option.some.inj H); go_wp2; go_ret; (exact ⟨_, by first | rfl | (simp [errW_none, errW_some] <;> rfl) | (simp [*, errW_none, errW_some] <;> rfl), by (with_reducible repeat (first | apply Ra_ | apply Rn_ | apply Rd_)); exact HO_3.out, by repeat (first | (with_reducible first | exact HB.out | apply ba_ | apply bn_ | apply bd_) | exact HB.out)⟩)
  ·(rw [if_neg c3] at H); (exact absurd H (by simp))
 ·(rw [if_neg c2] at H); (exact absurd H (by simp))
end Go.Proofs.Ytlbckkagjekhnaa.A

namespace Go.Proofs.Ytlbckkagjekhnaa.A
open Go.RowKit Go.Proofs.YtlbckkagjekhnaaW.PrintWords Go.Proofs.YtlbckkagjekhnaaW.PrintLast Go.Proofs.YtlbckkagjekhnaaW.PrintMore
attribute [local go_sem] max2_int min2_int max_two min_two max_three min_three max_four min_four   -- for this text's walks alone
set_option linter.unusedVariables false
set_option linter.unusedSimpArgs false
def laws_toStage.f (k : Nat) (l0_0 : List Int) (a0_1 : Int) : Option (List Int × Int) := (laws_toInt64S.f k l0_0).bind fun t553 => (some (t553, a0_1))
set_option maxHeartbeats 8000000 in
set_option maxRecDepth 100000 in
theorem laws_toStage.calls (k : Nat) (A0_0 : Option Addr) (c0_0 : Nat) (l0_0 : List Int) (a0_1 : Int) (r1 : List Int) (r2 : Int) (w : World) (hr0_0 : Kd.C (Kd.int .i64) w A0_0 l0_0.length l0_0) (hc0_0 : l0_0.length ≤ c0_0) (h : laws_toStage.f k l0_0 a0_1 = some (r1, r2)) :
    Calls Try.prog 62 #[.agg #[.slice A0_0 l0_0.length c0_0, .int .i64 a0_1]] w fun e w' => ∃ v0_ : Value, e = .returned (.agg #[v0_, .int .i64 r2]) ∧ Kd.R (Kd.int .i64) 2 w' w.heap.size (fun _ => True) v0_ r1 ∧ Below w.heap.size w w' := by
 (have hu95 := Try.underlying95); (have hu98 := Try.underlying98); (have HR0_0 := A0_ hr0_0); (have HC0_0 := A0_ hc0_0); clear hr0_0 hc0_0; (have HB := A0_ (Below.refl w.heap.size w))
 have H : ((laws_toInt64S.f k l0_0).bind fun t553 => (some (t553, a0_1))) = some (r1, r2) := h
 clear h; (replace H := Option.bind_eq_some_iff.mp H); (obtain ⟨t553, A20, H⟩ := H); (replace H : (some (t553, a0_1)) = some (r1, r2) := H); (have A2 := A0_ A20); clear A20; (have H0_ := A0_ H); clear H; (go_enter Try.func62, Try.ntmps62); (go_wp2_with (first | ((with_reducible refine gate_dst (N := 1) rfl ?_); refine box_event ?hg (N := 1) ?hd (cs := #[.slice A0_0 l0_0.length c0_0, .int .i64 a0_1]) (t := 95) ?hr ?_; (case hd => rfl); (case hg => rfl); (case hr => first | (go_simp; done) | (go_simp; rfl)); intro gb550 hg w3 hbox hb; have n0_ := A0_ (below_step (by repeat (first | (with_reducible first | exact HB.out | apply ba_ | apply bn_ | apply bd_) | exact HB.out)) hb); have n1_ := A0_ (hbox); have n2_ := A0_ ((by rw [hg]; exact (below_size (by repeat (first | (with_reducible first | exact HB.out | apply ba_ | apply bn_ | apply bd_) | exact HB.out))) : w.heap.size ≤ gb550)); have n3_ := A0_ ((by rw [hg]; exact (below_size (by repeat (first | (with_reducible first | exact HB.out | apply ba_ | apply bn_ | apply bd_) | exact HB.out))) : w.heap.size ≤ gb550)); clear HB; have HB := n0_; have BK550 := n1_; have GW550 := n2_; have GE550 := n3_; clear n0_ n1_ n2_ n3_; clear hb hbox hg) | ((with_reducible refine gate_dst (N := 2) rfl ?_); refine box_event ?hg (N := 2) ?hd (cs := #[.slice none 0 0, .int .i64 0]) (t := 98) ?hr ?_; (case hd => rfl); (case hg => rfl); (case hr => first | (go_simp; done) | (go_simp; rfl)); intro gb551 hg w4 hbox hb; have n0_ := A0_ (blk_below (g := gb550) (o := .cells #[.slice A0_0 l0_0.length c0_0, .int .i64 a0_1] 95 (0, 0)) (by (with_reducible repeat (first | apply gn_ | apply gd_ | apply ga_)); exact BK550.out) hb); have n1_ := A0_ (below_step (by repeat (first | (with_reducible first | exact HB.out | apply ba_ | apply bn_ | apply bd_ | refine below_set ?_ GE550.out) | exact HB.out)) hb); have n2_ := A0_ (hbox); have n3_ := A0_ ((by rw [hg]; exact (below_size (by repeat (first | (with_reducible first | exact HB.out | apply ba_ | apply bn_ | apply bd_ | refine below_set ?_ GE550.out) | exact HB.out))) : w.heap.size ≤ gb551)); have n4_ := A0_ ((by rw [hg]; exact (below_size (by repeat (first | (with_reducible first | exact HB.out | apply ba_ | apply bn_ | apply bd_ | refine below_set ?_ GE550.out) | exact HB.out))) : w.heap.size ≤ gb551)); have n5_ := A0_ ((by rw [hg]; exact Nat.ne_of_lt (blk_lt (g := gb550) (o := .cells #[.slice A0_0 l0_0.length c0_0, .int .i64 a0_1] 95 (0, 0)) (by (with_reducible repeat (first | apply gn_ | apply gd_ | apply ga_)); exact BK550.out)) : gb550 ≠ gb551)); have n6_ := A0_ ((by rw [hg]; exact Nat.ne_of_gt (blk_lt (g := gb550) (o := .cells #[.slice A0_0 l0_0.length c0_0, .int .i64 a0_1] 95 (0, 0)) (by (with_reducible repeat (first | apply gn_ | apply gd_ | apply ga_)); exact BK550.out)) : gb551 ≠ gb550)); clear BK550; clear HB; have BK550 := n0_; have HB := n1_; have BK551 := n2_; have GW551 := n3_; have GE551 := n4_; have NB550_551 := n5_; have NB551_550 := n6_; clear n0_ n1_ n2_ n3_ n4_ n5_ n6_; clear hb hbox hg) | ((with_reducible refine gate_dst (N := 3) rfl ?_); refine box_event ?hg (N := 3) ?hd (cs := #[.slice none 0 0, .int .i64 0]) (t := 98) ?hr ?_; (case hd => rfl); (case hg => rfl); (case hr => first | (go_simp; done) | (go_simp; rfl)); intro gb552 hg w5 hbox hb; have n0_ := A0_ (blk_below (g := gb550) (o := .cells #[.slice A0_0 l0_0.length c0_0, .int .i64 a0_1] 95 (0, 0)) (by (with_reducible repeat (first | apply gn_ | apply gd_ | apply ga_)); exact BK550.out) hb); have n1_ := A0_ (blk_below (g := gb551) (o := .cells #[.slice none 0 0, .int .i64 0] 98 (0, 0)) (by (with_reducible repeat (first | apply gn_ | apply gd_ | apply ga_)); exact BK551.out) hb); have n2_ := A0_ (below_step (by repeat (first | (with_reducible first | exact HB.out | apply ba_ | apply bn_ | apply bd_ | refine below_set ?_ GE550.out | refine below_set ?_ GE551.out) | exact HB.out)) hb); have n3_ := A0_ (hbox); have n4_ := A0_ ((by rw [hg]; exact (below_size (by repeat (first | (with_reducible first | exact HB.out | apply ba_ | apply bn_ | apply bd_ | refine below_set ?_ GE550.out | refine below_set ?_ GE551.out) | exact HB.out))) : w.heap.size ≤ gb552)); have n5_ := A0_ ((by rw [hg]; exact (below_size (by repeat (first | (with_reducible first | exact HB.out | apply ba_ | apply bn_ | apply bd_ | refine below_set ?_ GE550.out | refine below_set ?_ GE551.out) | exact HB.out))) : w.heap.size ≤ gb552)); have n6_ := A0_ ((by rw [hg]; exact Nat.ne_of_lt (blk_lt (g := gb550) (o := .cells #[.slice A0_0 l0_0.length c0_0, .int .i64 a0_1] 95 (0, 0)) (by (with_reducible repeat (first | apply gn_ | apply gd_ | apply ga_)); exact BK550.out)) : gb550 ≠ gb552)); have n7_ := A0_ ((by rw [hg]; exact Nat.ne_of_gt (blk_lt (g := gb550) (o := .cells #[.slice A0_0 l0_0.length c0_0, .int .i64 a0_1] 95 (0, 0)) (by (with_reducible repeat (first | apply gn_ | apply gd_ | apply ga_)); exact BK550.out)) : gb552 ≠ gb550)); have n8_ := A0_ ((by rw [hg]; exact Nat.ne_of_lt (blk_lt (g := gb551) (o := .cells #[.slice none 0 0, .int .i64 0] 98 (0, 0)) (by (with_reducible repeat (first | apply gn_ | apply gd_ | apply ga_)); exact BK551.out)) : gb551 ≠ gb552)); have n9_ := A0_ ((by rw [hg]; exact Nat.ne_of_gt (blk_lt (g := gb551) (o := .cells #[.slice none 0 0, .int .i64 0] 98 (0, 0)) (by (with_reducible repeat (first | apply gn_ | apply gd_ | apply ga_)); exact BK551.out)) : gb552 ≠ gb551)); clear BK550; clear BK551; clear HB; have BK550 := n0_; have BK551 := n1_; have HB := n2_; have BK552 := n3_; have GW552 := n4_; have GE552 := n5_; have NB550_552 := n6_; have NB552_550 := n7_; have NB551_552 := n8_; have NB552_551 := n9_; clear n0_ n1_ n2_ n3_ n4_ n5_ n6_ n7_ n8_ n9_; clear hb hbox hg; have hnb6 := NB550_551.out; have hnc6 := NB551_550.out; have hnb7 := NB550_552.out; have hnc7 := NB552_550.out; have hcz8_0 : w5.cell? ⟨gb550, 0, none⟩ = some (.slice A0_0 l0_0.length c0_0) := (blk_cell BK550.out 0).trans rfl; have hcz8_1 : w5.cell? ⟨gb550, 1, none⟩ = some (.int .i64 a0_1) := (blk_cell BK550.out 1).trans rfl; have hfz8_0 := blk_frozen BK550.out 0; have hfz8_1 := blk_frozen BK550.out 1) | ((with_reducible refine gate_callee (f := 92) rfl ?_); refine goesL_ (some 6) rfl rfl Try.func92 (by kernel_rfl) rfl #[.slice A0_0 l0_0.length c0_0] rfl (by (try simp only [List.map_toArray, List.map_cons, List.map_nil]); first | done | rfl | (simp only [List.length_drop, List.length_take]; rfl)) ?_; (with_reducible refine (laws_toInt64S.calls k _ _ l0_0 t553 _ ?side1 ?side2 A2.out).mono ?_); (case side1 => repeat (first | exact (Kd.C_below HR0_0.out HB.out) | (with_reducible refine Kd.C_alloc ?_ _) | (with_reducible refine Kd.C_drewN ?_ _) | (with_reducible refine Kd.C_drew ?_))); (case side2 => exact HC0_0.out); rintro e w9 ⟨v554, rfl, ho0, hb⟩; refine ⟨_, rfl, ?_⟩; have n0_ := A0_ (Kd.R_lower ho0 (below_size (by repeat (first | (with_reducible first | exact HB.out | apply ba_ | apply bn_ | apply bd_ | refine below_set ?_ GE550.out | refine below_set ?_ GE551.out | refine below_set ?_ GE552.out) | exact HB.out)))); have n1_ := A0_ (blk_below (g := gb550) (o := .cells #[.slice A0_0 l0_0.length c0_0, .int .i64 a0_1] 95 (0, 0)) (by (with_reducible repeat (first | apply gn_ | apply gd_ | apply ga_)); exact BK550.out) hb); have n2_ := A0_ (blk_below (g := gb551) (o := .cells #[.slice none 0 0, .int .i64 0] 98 (0, 0)) (by (with_reducible repeat (first | apply gn_ | apply gd_ | apply ga_)); exact BK551.out) hb); have n3_ := A0_ (blk_below (g := gb552) (o := .cells #[.slice none 0 0, .int .i64 0] 98 (0, 0)) (by (with_reducible repeat (first | apply gn_ | apply gd_ | apply ga_)); exact BK552.out) hb); have n4_ := A0_ (below_step (by repeat (first | (with_reducible first | exact HB.out | apply ba_ | apply bn_ | apply bd_ | refine below_set ?_ GE550.out | refine below_set ?_ GE551.out | refine below_set ?_ GE552.out) | exact HB.out)) hb); clear BK550; clear BK551; clear BK552; clear HB; have HO555 := n0_; have BK550 := n1_; have BK551 := n2_; have BK552 := n3_; have HB := n4_; clear n0_ n1_ n2_ n3_ n4_; (try clear hb); (try clear hb2); (try clear hk); (try clear hi); (try clear ho0); refine Stop0.out ?_))); (refine Stop0.mk ?_); (have H := H0_.out); clear H0_; (simp only [Option.some.injEq, Prod.mk.injEq] at H); (obtain ⟨rfl, rfl⟩ := H); (obtain ⟨Ao10, co10, eo10⟩ := Kd.R_slice HO555.out); subst eo10; (have hnb11 := NB552_550.out); (have hnc11 := NB550_552.out); (have hnb12 := NB552_551.out); (have hnc12 := NB551_552.out); (have hcz13_0 : w9.cell? ⟨gb552, 0, none⟩ = some (.slice none 0 0) := (blk_cell BK552.out 0).trans rfl); (have hcz13_1 : w9.cell? ⟨gb552, 1, none⟩ = some (.int .i64 0) := (blk_cell BK552.out 1).trans rfl); (have hfz13_0 := blk_frozen BK552.out 0); (have hfz13_1 := blk_frozen BK552.out 1); (have hnb14 := NB550_551.out); (have hnc14 := NB551_550.out); (have hcz15_0 : w9.cell? ⟨gb550, 0, none⟩ = some (.slice A0_0 l0_0.length c0_0) := (blk_cell BK550.out 0).trans rfl); (have hcz15_1 : w9.cell? ⟨gb550, 1, none⟩ = some (.int .i64 a0_1) := (blk_cell BK550.out 1).trans rfl); (have hfz15_0 := blk_frozen BK550.out 0); (have hfz15_1 := blk_frozen BK550.out 1); (have hcz16_0 : w9.cell? ⟨gb551, 0, none⟩ = some (.slice none 0 0) := (blk_cell BK551.out 0).trans rfl); (have hcz16_1 : w9.cell? ⟨gb551, 1, none⟩ = some (.int .i64 0) := (blk_cell BK551.out 1).trans rfl); (have hfz16_0 := blk_frozen BK551.out 0); (have hfz16_1 := blk_frozen BK551.out 1); go_wp2; (refine bodyPost_ret (results_cell_row rfl _ _ gb551 98 #[.slice Ao10 t553.length co10, .int .i64 a0_1] (0, 0) _ rfl (by (with_reducible repeat (first | apply gn_ | apply gd_ | apply ga_)); refine blk_put (cs := #[.slice Ao10 t553.length co10, .int .i64 0]) ?_ 1 _ rfl; (with_reducible repeat (first | apply gn_ | apply gd_ | apply ga_)); refine blk_put (cs := #[.slice none 0 0, .int .i64 0]) ?_ 0 _ rfl; (with_reducible repeat (first | apply gn_ | apply gd_ | apply ga_)); refine blk_far ?_ NB551_552.out _; (with_reducible repeat (first | apply gn_ | apply gd_ | apply ga_)); refine blk_far ?_ NB551_552.out _; (with_reducible repeat (first | apply gn_ | apply gd_ | apply ga_)); exact BK551.out) Try.underlying98 rfl (by kernel_rfl)) rfl ?_)
 exact ⟨_, by first | rfl | (simp [errW_none, errW_some] <;> rfl) | (simp [*, errW_none, errW_some] <;> rfl), by (with_reducible repeat (first | apply Ra_ | apply Rn_ | apply Rd_)); exact Kd.R_mono (Kd.R_far (p := ⟨gb551, 1, none⟩) (Kd.R_far (p := ⟨gb551, 0, none⟩) (Kd.R_far (p := ⟨gb552, 1, none⟩) (Kd.R_far (p := ⟨gb552, 0, none⟩) (Kd.R_types (Kd.R_types HO555.out BK552.out (by decide)) BK551.out (by decide)) (fun _ hk => hk.1.2) (.slice Ao10 t553.length co10)) (fun _ hk => hk.1.2) (.int .i64 a0_1)) (fun _ hk => hk.2) (.slice Ao10 t553.length co10)) (fun _ hk => hk.2) (.int .i64 a0_1)) (fun _ hk => trivial), by repeat (first | (with_reducible first | exact HB.out | apply ba_ | apply bn_ | apply bd_ | refine below_set ?_ GE550.out | refine below_set ?_ GE551.out | refine below_set ?_ GE552.out) | exact HB.out)⟩
end Go.Proofs.Ytlbckkagjekhnaa.A

namespace Go.Proofs.Ytlbckkagjekhnaa.A
open Go.RowKit Go.Proofs.YtlbckkagjekhnaaW.PrintWords Go.Proofs.YtlbckkagjekhnaaW.PrintLast Go.Proofs.YtlbckkagjekhnaaW.PrintMore
attribute [local go_sem] max2_int min2_int max_two min_two max_three min_three max_four min_four   -- for this text's walks alone
set_option linter.unusedVariables false
set_option linter.unusedSimpArgs false
def laws_toStageS.l0 : Nat → List (S95) → List (S98) → Int → Option ((List (S98)))
  | 0, _, _, _ => none
  | k + 1, x0, x3, x4 => if x4 < (x0.length : Int) then (if 0 ≤ x4 then ((laws_toStage.f k ((rd_T95 x0 x4).f0) ((rd_T95 x0 x4).f1)).bind fun bt560 => (if x4 < (x3.length : Int) then (laws_toStageS.l0 k x0 (x3.set (x4 : Int).toNat (⟨bt560.1, bt560.2⟩ : S98)) (wrap64 (x4 + 1))) else (none))) else (none)) else (some x3)
def laws_toStageS.f (k : Nat) (l0 : List (S95)) : Option ((List (S98))) := if 0 ≤ (l0.length : Int) then (if ((l0.length : Int) : Int).toNat ≤ 8796093022208 then (laws_toStageS.l0 k l0 (List.replicate ((l0.length : Int) : Int).toNat z98) 0) else (none)) else (none)
set_option maxHeartbeats 8000000 in
set_option maxRecDepth 100000 in
theorem laws_toStageS.calls (k : Nat) (A0 : Option Addr) (c0 : Nat) (l0 : List (S95)) (r : List (S98)) (w : World) (hr0 : Kd.C k95 w A0 l0.length l0) (hc0 : l0.length ≤ c0) (h : laws_toStageS.f k l0 = some r) :
    Calls Try.prog 29 #[.slice A0 l0.length c0] w fun e w' => ∃ v0_ : Value, e = .returned (v0_) ∧ Kd.S k98 98 w' w.heap.size (fun _ => True) v0_ r ∧ Below w.heap.size w w' := by
 (have hu95 := Try.underlying95); (have hu98 := Try.underlying98); (have HR0 := A0_ hr0); (have HC0 := A0_ hc0); clear hr0 hc0; (have HB := A0_ (Below.refl w.heap.size w)); (have H : (if 0 ≤ (l0.length : Int) then (if ((l0.length : Int) : Int).toNat ≤ 8796093022208 then (laws_toStageS.l0 k l0 (List.replicate ((l0.length : Int) : Int).toNat z98) 0) else (none)) else (none)) = some r := h); clear h; (by_cases c2 : 0 ≤ (l0.length : Int))
 ·(rw [if_pos c2] at H); (have c2b0 := eq_true c2); (have c2b1 : decide (0 ≤ (l0.length : Int)) = true := decide_eq_true c2); clear c2; (by_cases c3 : ((l0.length : Int) : Int).toNat ≤ 8796093022208)
  ·(rw [if_pos c3] at H); (have c3b0 := eq_true c3); (have c3b1 : decide (((l0.length : Int) : Int).toNat ≤ 8796093022208) = true := decide_eq_true c3); clear c3; (obtain ⟨y556, hy556⟩ : ∃ y_ : List (S98), y_ = (List.replicate ((l0.length : Int) : Int).toNat z98) := ⟨_, rfl⟩); (replace H : (laws_toStageS.l0 k l0 y556 0) = some r := by first | (rw [hy556]; with_reducible exact H) | (have H2_ := (Option.bind_some _ _).symm.trans H; rw [hy556]; with_reducible exact H2_) | (have H2_ := (Option.bind_some _ _).symm.trans H; with_reducible exact H2_) | with_reducible exact H | (rw [hy556]; exact H) | exact H); (have Ny556 := A0_ hy556); clear hy556; (have H' := A0_ H); clear H; (go_enter Try.func29, Try.ntmps29)
   go_wp2_with (first | ((with_reducible refine gate_dst (N := 7) rfl ?_); refine Kd.S_make k98 _ 98 rfl (N := 7) rfl 49 _ _ rfl (l0.length : Int) rfl rfl Try.underlying49 (.agg #[(.slice none 0 0), (.int .i64 0)]) 32 info98 rfl (by decide) (by omega) z98 (ok := fun _ => True) (okp := fun _ => True) (k98_mkM _ _ _ z98 (Kd.R_nil _ _ _ _ _)) (fun _ hk => hk) trivial (of_decide_eq_true (by first | (with_reducible assumption) | assumption)) (Nat.le_trans (Nat.mul_le_mul_right _ (of_decide_eq_true (by first | (with_reducible assumption) | assumption) : (l0.length : Int).toNat ≤ 8796093022208)) (by omega)) (Below.refl _ _) (Nat.le_refl _) ?_; intro v557 w4 ho5 hb hg_ hnew_; clear hg_ hnew_; (first | rw [← Ny556.out] at ho5 | (simp only [Int.reduceToNat] at ho5; rw [← Ny556.out] at ho5)); have n0_ := A0_ (Kd.S_lower ho5 (below_size (by repeat (first | (with_reducible first | exact HB.out | apply ba_ | apply bn_ | apply bd_) | exact HB.out)))); have n1_ := A0_ (below_step (by repeat (first | (with_reducible first | exact HB.out | apply ba_ | apply bn_ | apply bd_) | exact HB.out)) hb); clear HB; have HO558 := n0_; have HB := n1_; clear n0_ n1_; clear hb ho5))
   go_loopg [4] k (fun kq v4 w' => ∃ (x3_1 : List (S98)) (x4_1 : Int), v4 = .int .i64 x4_1 ∧ Aside0 (laws_toStageS.l0 kq l0 x3_1 x4_1 = some r) ∧ Aside0 (kq ≤ k) ∧ Aside0 (Kd.S k98 98 w' w.heap.size (fun _ => True) v557 x3_1) ∧ Aside0 (Below w.heap.size w w'))
   case atStart => exact ⟨(y556), (0), (by first | rfl | (simp; done) | (simp [*]; done)), H', ⟨Nat.le_refl _⟩, ⟨by (with_reducible repeat (first | apply Kd.S_alloc | apply Kd.S_drewN | apply Kd.S_drew)); exact HO558.out⟩, ⟨by repeat (first | (with_reducible first | exact HB.out | apply ba_ | apply bn_ | apply bd_) | exact HB.out)⟩⟩
   case round =>
    clear H'; (try clear c2); (try clear c2b0); (try clear c2b1); (try clear p2); (try clear c3); (try clear c3b0); (try clear c3b1); (obtain ⟨x3_1, x4_1, rfl, HA, HK1, HO_3, HB⟩ := hrel)
    cases gk with
    | zero => exact absurd HA.out (by simp [laws_toStageS.l0])
    | succ k1 =>
     (have H := HA.out); clear HA; (simp only [laws_toStageS.l0] at H); (by_cases c6 : x4_1 < (l0.length : Int))
     ·(rw [if_pos c6] at H); (have c6b0 : decide (x4_1 < (l0.length : Int)) = true := decide_eq_true c6); clear c6; (by_cases c7 : 0 ≤ x4_1)
      ·(rw [if_pos c7] at H); (have c7b0 : decide (0 ≤ x4_1) = true := decide_eq_true c7); clear c7; (replace H := Option.bind_eq_some_iff.mp H); (obtain ⟨⟨t560, t563⟩, A80, H⟩ := H); (try dsimp only at H); (have A8 := A0_ A80); clear A80; (have H0_ := A0_ H); clear H; (have p559 : 0 ≤ (x4_1 : Int) := of_decide_eq_true (by first | (with_reducible assumption) | assumption)); (have q559 : x4_1 < (l0.length : Int) := of_decide_eq_true (by first | (with_reducible assumption) | assumption)); (obtain ⟨ad559, A559_0, c559_0, e559, hx559_0, hx559_1, hl559_0, hi559_0⟩ := at_T95 HR0.out x4_1 p559 q559); (cases e559); (replace hx559_0 := (HB.out.cell (World.block_lt_of_cell? w _ hx559_0)).trans hx559_0); (replace hx559_1 := (HB.out.cell (World.block_lt_of_cell? w _ hx559_1)).trans hx559_1); (have HR559_0 := A0_ hi559_0); (have HC559_0 := A0_ hl559_0); clear hi559_0 hl559_0; (replace p559 := eq_true p559); (replace q559 := eq_true q559); (go_wp2_with (first | ((with_reducible refine gate_callee (f := 62) rfl ?_); refine goesL_ (some 20) rfl rfl Try.func62 (by kernel_rfl) rfl #[.agg #[.slice A559_0 ((rd_T95 l0 x4_1).f0).length c559_0, .int .i64 ((rd_T95 l0 x4_1).f1)]] rfl (by (try simp only [List.map_toArray, List.map_cons, List.map_nil]); first | done | rfl | (simp only [List.length_drop, List.length_take]; rfl)) ?_; (with_reducible refine (laws_toStage.calls k1 _ _ ((rd_T95 l0 x4_1).f0) ((rd_T95 l0 x4_1).f1) t560 t563 _ ?side1 ?side2 A8.out).mono ?_); (case side1 => repeat (first | exact (Kd.C_below HR559_0.out HB.out) | (with_reducible refine Kd.C_alloc ?_ _) | (with_reducible refine Kd.C_drewN ?_ _) | (with_reducible refine Kd.C_drew ?_))); (case side2 => exact HC559_0.out); rintro e w9 ⟨v561, rfl, ho0, hb⟩; refine ⟨_, rfl, ?_⟩; have n0_ := A0_ (Kd.S_elder' (by (with_reducible repeat (first | apply Kd.S_alloc | apply Kd.S_drewN | apply Kd.S_drew)); exact HO_3.out) (Kd.R_base ho0) hb); have n1_ := A0_ (Kd.R_lower ho0 (below_size (by repeat (first | (with_reducible first | exact HB.out | apply ba_ | apply bn_ | apply bd_) | exact HB.out)))); have n2_ := A0_ (below_step (by repeat (first | (with_reducible first | exact HB.out | apply ba_ | apply bn_ | apply bd_) | exact HB.out)) hb); clear HO_3; clear HB; have HO_3 := n0_; have HO562 := n1_; have HB := n2_; clear n0_ n1_ n2_; (try clear hb); (try clear hb2); (try clear hk); (try clear hi); (try clear ho0); refine Stop0.out ?_))); (refine Stop0.mk ?_); (have H := H0_.out); clear H0_; (by_cases c10 : x4_1 < (x3_1.length : Int))
       ·(rw [if_pos c10] at H); (have c10b0 : decide (x4_1 < (x3_1.length : Int)) = true := decide_eq_true c10); clear c10; (obtain ⟨y564, hy564⟩ : ∃ y_ : List (S98), y_ = (x3_1.set (x4_1 : Int).toNat (⟨t560, t563⟩ : S98)) := ⟨_, rfl⟩); (replace H : (laws_toStageS.l0 k1 l0 y564 (wrap64 (x4_1 + 1))) = some r := by first | (rw [hy564]; with_reducible exact H) | (have H2_ := (Option.bind_some _ _).symm.trans H; rw [hy564]; with_reducible exact H2_) | (have H2_ := (Option.bind_some _ _).symm.trans H; with_reducible exact H2_) | with_reducible exact H | (rw [hy564]; exact H) | exact H); (have Ny564 := A0_ hy564); clear hy564; (have H' := A0_ H); clear H; (have p11 : 0 ≤ (x4_1 : Int) := of_decide_eq_true (by first | (with_reducible assumption) | assumption)); (have q11 : (x4_1 : Int) < ((x3_1.length : Int) : Int) := of_decide_eq_true (by first | (with_reducible assumption) | assumption)); (obtain ⟨go11, co11, eo11, gb11, gl11, cl11, HG11⟩ := Kd.S_form HO_3.out (by omega)); ((first | cases eo11 | (injection eo11 with ea_ en_ ec_; (first | subst ea_ | (injection ea_ with ea_; subst ea_)); subst ec_; clear en_))); (have GB11 := A0_ gb11); (have GG11 := A0_ HG11); clear gb11 gl11 HG11; (obtain ⟨_, ce11, hcl11, hM11, hcc11, hfr11, _, _⟩ := Kd.S_elem HO_3.out z98 (x4_1 : Int) p11 q11); (obtain ⟨ve11_0, rfl, ge11_0⟩ := k98_openM hM11); (have hx11_0 : w9.cell? ⟨go11, (x4_1 : Int).toNat * 2, none⟩ = some (ve11_0) := hcc11 0 _ rfl); (have hx11_1 : w9.cell? ⟨go11, (x4_1 : Int).toNat * 2 + 1, none⟩ = some (.int .i64 ((rd_T98 x3_1 x4_1).f1)) := hcc11 1 _ rfl); (have hf11_0 : w9.frozen? ⟨go11, (x4_1 : Int).toNat * 2, none⟩ = false := hfr11 0); (have hf11_1 : w9.frozen? ⟨go11, (x4_1 : Int).toNat * 2 + 1, none⟩ = false := hfr11 1); clear hcl11 hcc11 hfr11 hM11; (replace p11 := eq_true p11); (replace q11 := eq_true q11)
        have n_ := A0_ (Kd.S_mono (ok' := (fun k_ => some k_ ≠ (v561 : Value).ownBlock)) HO_3.out (fun k_ hk => hk.2))
        clear HO_3; (have HO_3 := n_); clear n_
        have HX12 := A0_ (show Kd.S k98 98 w9 w.heap.size (fun k_ => ((fun _ => True)) k_ ∧ ¬ ((fun k_ => some k_ = (v561 : Value).ownBlock)) k_) (.slice (some ⟨go11, 0, none⟩) x3_1.length co11) x3_1 from (by (with_reducible repeat (first | apply Kd.S_alloc | apply Kd.S_drewN | apply Kd.S_drew)); exact Kd.S_mono HO_3.out (fun k_ hk => ⟨trivial, fun e_ => hk e_⟩)))
        (obtain ⟨oki12, ce12, hcl12, hM12, hcc12, hfr12, hoki12, hH12⟩ := Kd.S_elem HX12.out z98 (x4_1 : Int) (of_decide_eq_true (by first | (with_reducible assumption) | assumption)) (by have h_ : (x4_1 : Int) < ((x3_1.length : Int) : Int) := of_decide_eq_true (by first | (with_reducible assumption) | assumption); first | exact h_ | (have e_ := (Kd.S_reads' HO_3.out).1; omega) | simpa using h_)); (obtain ⟨ve12_0, rfl, ge12_0⟩ := k98_openM hM12)
        have HP12 := Kd.S_seg hH12 (of_decide_eq_true (by first | (with_reducible assumption) | assumption)) (by have h_ : (x4_1 : Int) < ((x3_1.length : Int) : Int) := of_decide_eq_true (by first | (with_reducible assumption) | assumption); first | exact h_ | (have e_ := (Kd.S_reads' HO_3.out).1; omega) | simpa using h_) (seg := [v561, .int .i64 t563]) (j := 0) (show 2 ≤ 2 from by decide) (x' := (⟨t560, t563⟩ : S98)) (k98_mkM _ _ _ (⟨t560, t563⟩ : S98) (Kd.R_mono (Kd.R_tight rfl (Kd.R_mono (ok' := fun k_ => ((fun _ => True)) k_ ∧ k_ ≠ go11) (Kd.R_apart' (HO562.out) (Kd.S_typed HO_3.out) (by decide)) (fun k_ hk => ⟨trivial, fun e_ => (hk.2) (by rw [e_]; rfl)⟩))) (fun _ h_ => Or.inr (h_)))) (fun _ hk => hk) (fun k_ hk_ => ((Kd.R_mono (ok' := fun k_ => ((fun _ => True)) k_ ∧ k_ ≠ go11) (Kd.R_apart' (HO562.out) (Kd.S_typed HO_3.out) (by decide)) (fun k_ hk => ⟨trivial, fun e_ => (hk.2) (by rw [e_]; rfl)⟩))).1 k_ hk_.symm)
        (have hx12_0 := hcc12 0 _ rfl); ((try simp only [show (k98).sz = 2 from rfl, Nat.mul_one, Nat.add_zero] at hx12_0)); (have hf12_0 := hfr12 0); ((try simp only [show (k98).sz = 2 from rfl, Nat.mul_one, Nat.add_zero] at hf12_0)); (have hx12_1 := hcc12 1 _ rfl); ((try simp only [show (k98).sz = 2 from rfl, Nat.mul_one, Nat.add_zero] at hx12_1)); (have hf12_1 := hfr12 1); ((try simp only [show (k98).sz = 2 from rfl, Nat.mul_one, Nat.add_zero] at hf12_1)); clear hcl12 hcc12 hfr12 hM12 hoki12 hH12
        go_wp2_with (first | ((with_reducible refine gate_store (t := 98) (p := 21) rfl ?_); refine store_event (t := 98) (p := 21) (v := ?vo_w13) (w1 := ((w9.setCell ⟨go11, (x4_1 : Int).toNat * 2, none⟩ (v561)).setCell ⟨go11, (x4_1 : Int).toNat * 2 + 1, none⟩ (.int .i64 t563))) ?hg ?ho ?hn ?hr ?_; (case ho => rfl); (case hg => rfl); (case hn => rfl); (case hr => first | (go_simp; done) | (go_simp; rfl) | (obtain ⟨_, _, rfl⟩ := Kd.R_slice HO123.out; first | (go_simp; done) | (go_simp; rfl)) | (obtain ⟨_, _, rfl⟩ := Kd.S_slice HO123.out; first | (go_simp; done) | (go_simp; rfl)) | (obtain ⟨_, _, rfl⟩ := Kd.R_slice HO562.out; first | (go_simp; done) | (go_simp; rfl)) | (obtain ⟨_, _, rfl⟩ := Kd.S_slice HO562.out; first | (go_simp; done) | (go_simp; rfl))); intro w13 hw; have hg : w9.grownBy w13 (some go11) := (by rw [hw]; exact HP12.2); have hp_ : Kd.S k98 98 w13 w.heap.size (fun _ => True) (.slice (some ⟨go11, 0, none⟩) x3_1.length co11) y564 := (by rw [hw, Ny564.out]; exact HP12.1); clear HP12; have n0_ := A0_ (hp_); have n1_ := A0_ ((by rw [hw]; exact below_set (below_set (HB.out) GB11.out) GB11.out : Below w.heap.size w w13)); clear HO_3; clear HB; clear HO562; have HO_3 := n0_; have HB := n1_; clear n0_ n1_; clear hg hw hp_))
        (go_roundg k1)
        case measure => have := HK1.out; omega
        case rel => exact ⟨(y564), (wrap64 (x4_1 + 1)), (by first | rfl | (simp; done) | (simp [*]; done)), H', ⟨by have := HK1.out; omega⟩, ⟨by (with_reducible repeat (first | apply Kd.S_alloc | apply Kd.S_drewN | apply Kd.S_drew)); exact HO_3.out⟩, ⟨by repeat (first | (with_reducible first | exact HB.out | apply ba_ | apply bn_ | apply bd_) | exact HB.out)⟩⟩
       ·(rw [if_neg c10] at H); (exact absurd H (by simp))
      ·(rw [if_neg c7] at H); (exact absurd H (by simp))
     ·(rw [if_neg c6] at H); (have c6b0 : decide (x4_1 < (l0.length : Int)) = false := decide_eq_false c6); clear c6; (obtain rfl := Option.some.inj H); go_wp2; go_ret; (exact ⟨_, by first | rfl | (simp [errW_none, errW_some] <;> rfl) | (simp [*, errW_none, errW_some] <;> rfl), by (with_reducible repeat (first | apply Kd.S_alloc | apply Kd.S_drewN | apply Kd.S_drew)); exact HO_3.out, by repeat (first | (with_reducible first | exact HB.out | apply ba_ | apply bn_ | apply bd_) | exact HB.out)⟩)
  ·(rw [if_neg c3] at H); (exact absurd H (by simp))
 ·(rw [if_neg c2] at H); (exact absurd H (by simp))
end Go.Proofs.Ytlbckkagjekhnaa.A

namespace Go.Proofs.Ytlbckkagjekhnaa.A
open Go.RowKit Go.Proofs.YtlbckkagjekhnaaW.PrintWords Go.Proofs.YtlbckkagjekhnaaW.PrintLast Go.Proofs.YtlbckkagjekhnaaW.PrintMore
attribute [local go_sem] max2_int min2_int max_two min_two max_three min_three max_four min_four   -- for this text's walks alone
set_option linter.unusedVariables false
set_option linter.unusedSimpArgs false
def laws_eqStage.f (k : Nat) (l0_0 : List Int) (a0_1 : Int) (l1_0 : List Int) (a1_1 : Int) : Option (Bool) := (laws_eqInt64S.f k l0_0 l1_0).bind fun t583 => (if t583 = true then (if a0_1 = a1_1 then (some true) else (some false)) else (some false))
set_option maxHeartbeats 8000000 in
set_option maxRecDepth 100000 in
theorem laws_eqStage.calls (k : Nat) (A0_0 : Option Addr) (c0_0 : Nat) (l0_0 : List Int) (a0_1 : Int) (A1_0 : Option Addr) (c1_0 : Nat) (l1_0 : List Int) (a1_1 : Int) (r : Bool) (w : World) (hr0_0 : Kd.C (Kd.int .i64) w A0_0 l0_0.length l0_0) (hc0_0 : l0_0.length ≤ c0_0) (hr1_0 : Kd.C (Kd.int .i64) w A1_0 l1_0.length l1_0) (hc1_0 : l1_0.length ≤ c1_0) (h : laws_eqStage.f k l0_0 a0_1 l1_0 a1_1 = some r) :
    Calls Try.prog 64 #[.agg #[.slice A0_0 l0_0.length c0_0, .int .i64 a0_1], .agg #[.slice A1_0 l1_0.length c1_0, .int .i64 a1_1]] w fun e w' => e = .returned (.bool r) ∧ Below w.heap.size w w' := by
 (have hu98 := Try.underlying98); (have HR0_0 := A0_ hr0_0); (have HC0_0 := A0_ hc0_0); clear hr0_0 hc0_0; (have HR1_0 := A0_ hr1_0); (have HC1_0 := A0_ hc1_0); clear hr1_0 hc1_0; (have HB := A0_ (Below.refl w.heap.size w))
 have H : ((laws_eqInt64S.f k l0_0 l1_0).bind fun t583 => (if t583 = true then (if a0_1 = a1_1 then (some true) else (some false)) else (some false))) = some r := h
 clear h; (replace H := Option.bind_eq_some_iff.mp H); (obtain ⟨t583, A30, H⟩ := H); (try dsimp only at H); (have A3 := A0_ A30); clear A30; (have H0_ := A0_ H); clear H; (go_enter Try.func64, Try.ntmps64); (go_wp2_with (first | ((with_reducible refine gate_dst (N := 2) rfl ?_); refine box_event ?hg (N := 2) ?hd (cs := #[.slice A0_0 l0_0.length c0_0, .int .i64 a0_1]) (t := 98) ?hr ?_; (case hd => rfl); (case hg => rfl); (case hr => first | (go_simp; done) | (go_simp; rfl)); intro gb581 hg w4 hbox hb; have n0_ := A0_ (below_step (by repeat (first | (with_reducible first | exact HB.out | apply ba_ | apply bn_ | apply bd_) | exact HB.out)) hb); have n1_ := A0_ (hbox); have n2_ := A0_ ((by rw [hg]; exact (below_size (by repeat (first | (with_reducible first | exact HB.out | apply ba_ | apply bn_ | apply bd_) | exact HB.out))) : w.heap.size ≤ gb581)); have n3_ := A0_ ((by rw [hg]; exact (below_size (by repeat (first | (with_reducible first | exact HB.out | apply ba_ | apply bn_ | apply bd_) | exact HB.out))) : w.heap.size ≤ gb581)); clear HB; have HB := n0_; have BK581 := n1_; have GW581 := n2_; have GE581 := n3_; clear n0_ n1_ n2_ n3_; clear hb hbox hg) | ((with_reducible refine gate_dst (N := 3) rfl ?_); refine box_event ?hg (N := 3) ?hd (cs := #[.slice A1_0 l1_0.length c1_0, .int .i64 a1_1]) (t := 98) ?hr ?_; (case hd => rfl); (case hg => rfl); (case hr => first | (go_simp; done) | (go_simp; rfl)); intro gb582 hg w5 hbox hb; have n0_ := A0_ (blk_below (g := gb581) (o := .cells #[.slice A0_0 l0_0.length c0_0, .int .i64 a0_1] 98 (0, 0)) (by (with_reducible repeat (first | apply gn_ | apply gd_ | apply ga_)); exact BK581.out) hb); have n1_ := A0_ (below_step (by repeat (first | (with_reducible first | exact HB.out | apply ba_ | apply bn_ | apply bd_ | refine below_set ?_ GE581.out) | exact HB.out)) hb); have n2_ := A0_ (hbox); have n3_ := A0_ ((by rw [hg]; exact (below_size (by repeat (first | (with_reducible first | exact HB.out | apply ba_ | apply bn_ | apply bd_ | refine below_set ?_ GE581.out) | exact HB.out))) : w.heap.size ≤ gb582)); have n4_ := A0_ ((by rw [hg]; exact (below_size (by repeat (first | (with_reducible first | exact HB.out | apply ba_ | apply bn_ | apply bd_ | refine below_set ?_ GE581.out) | exact HB.out))) : w.heap.size ≤ gb582)); have n5_ := A0_ ((by rw [hg]; exact Nat.ne_of_lt (blk_lt (g := gb581) (o := .cells #[.slice A0_0 l0_0.length c0_0, .int .i64 a0_1] 98 (0, 0)) (by (with_reducible repeat (first | apply gn_ | apply gd_ | apply ga_)); exact BK581.out)) : gb581 ≠ gb582)); have n6_ := A0_ ((by rw [hg]; exact Nat.ne_of_gt (blk_lt (g := gb581) (o := .cells #[.slice A0_0 l0_0.length c0_0, .int .i64 a0_1] 98 (0, 0)) (by (with_reducible repeat (first | apply gn_ | apply gd_ | apply ga_)); exact BK581.out)) : gb582 ≠ gb581)); clear BK581; clear HB; have BK581 := n0_; have HB := n1_; have BK582 := n2_; have GW582 := n3_; have GE582 := n4_; have NB581_582 := n5_; have NB582_581 := n6_; clear n0_ n1_ n2_ n3_ n4_ n5_ n6_; clear hb hbox hg; have hnb6 := NB581_582.out; have hnc6 := NB582_581.out; have hcz7_0 : w5.cell? ⟨gb581, 0, none⟩ = some (.slice A0_0 l0_0.length c0_0) := (blk_cell BK581.out 0).trans rfl; have hcz7_1 : w5.cell? ⟨gb581, 1, none⟩ = some (.int .i64 a0_1) := (blk_cell BK581.out 1).trans rfl; have hfz7_0 := blk_frozen BK581.out 0; have hfz7_1 := blk_frozen BK581.out 1; have hcz8_0 : w5.cell? ⟨gb582, 0, none⟩ = some (.slice A1_0 l1_0.length c1_0) := (blk_cell BK582.out 0).trans rfl; have hcz8_1 : w5.cell? ⟨gb582, 1, none⟩ = some (.int .i64 a1_1) := (blk_cell BK582.out 1).trans rfl; have hfz8_0 := blk_frozen BK582.out 0; have hfz8_1 := blk_frozen BK582.out 1) | ((with_reducible refine gate_callee (f := 34) rfl ?_); refine goesL_ (some 9) rfl rfl Try.func34 (by kernel_rfl) rfl #[.slice A0_0 l0_0.length c0_0, .slice A1_0 l1_0.length c1_0] rfl (by (try simp only [List.map_toArray, List.map_cons, List.map_nil]); first | done | rfl | (simp only [List.length_drop, List.length_take]; rfl)) ?_; (with_reducible refine (laws_eqInt64S.calls k _ _ l0_0 _ _ l1_0 t583 _ ?side1 ?side2 ?side3 ?side4 A3.out).mono ?_); (case side1 => repeat (first | exact (Kd.C_below HR0_0.out HB.out) | (with_reducible refine Kd.C_alloc ?_ _) | (with_reducible refine Kd.C_drewN ?_ _) | (with_reducible refine Kd.C_drew ?_))); (case side2 => exact HC0_0.out); (case side3 => repeat (first | exact (Kd.C_below HR1_0.out HB.out) | (with_reducible refine Kd.C_alloc ?_ _) | (with_reducible refine Kd.C_drewN ?_ _) | (with_reducible refine Kd.C_drew ?_))); (case side4 => exact HC1_0.out); rintro e w' ⟨rfl, ⟨nd, rfl⟩⟩; refine ⟨_, rfl, ?_⟩; refine Stop0.out ?_))); (refine Stop0.mk ?_); (have H := H0_.out); clear H0_; (by_cases c9 : t583 = true)
 ·subst c9; (have H1 := H); (rw [if_pos rfl] at H1); clear H; (have H := H1); clear H1; (by_cases c10 : a0_1 = a1_1)
  ·(rw [if_pos c10] at H); (have c10b0 : (a0_1 == a1_1) = true := beq_iff_eq.mpr c10); (have c10b1 : (a0_1 != a1_1) = false := bne_eq_false_iff_eq.mpr c10); clear c10; (obtain rfl := Option.some.inj H); (have hnb11 := NB581_582.out); (have hnc11 := NB582_581.out); (have hcz12_0 : w5.cell? ⟨gb581, 0, none⟩ = some (.slice A0_0 l0_0.length c0_0) := (blk_cell BK581.out 0).trans rfl); (have hcz12_1 : w5.cell? ⟨gb581, 1, none⟩ = some (.int .i64 a0_1) := (blk_cell BK581.out 1).trans rfl); (have hfz12_0 := blk_frozen BK581.out 0); (have hfz12_1 := blk_frozen BK581.out 1); (have hcz13_0 : w5.cell? ⟨gb582, 0, none⟩ = some (.slice A1_0 l1_0.length c1_0) := (blk_cell BK582.out 0).trans rfl); (have hcz13_1 : w5.cell? ⟨gb582, 1, none⟩ = some (.int .i64 a1_1) := (blk_cell BK582.out 1).trans rfl); (have hfz13_0 := blk_frozen BK582.out 0); (have hfz13_1 := blk_frozen BK582.out 1); go_wp2; go_ret; (exact ⟨by first | rfl | (simp [errW_none, errW_some] <;> rfl) | (simp [*, errW_none, errW_some] <;> rfl), by repeat (first | (with_reducible first | exact HB.out | apply ba_ | apply bn_ | apply bd_ | refine below_set ?_ GE581.out | refine below_set ?_ GE582.out) | exact HB.out)⟩)
  ·(rw [if_neg c10] at H); (have c10b0 : (a0_1 == a1_1) = false := beq_eq_false_iff_ne.mpr c10); (have c10b1 : (a0_1 != a1_1) = true := bne_iff_ne.mpr c10); (obtain rfl := Option.some.inj H); (have hnb14 := NB581_582.out); (have hnc14 := NB582_581.out); (have hcz15_0 : w5.cell? ⟨gb581, 0, none⟩ = some (.slice A0_0 l0_0.length c0_0) := (blk_cell BK581.out 0).trans rfl); (have hcz15_1 : w5.cell? ⟨gb581, 1, none⟩ = some (.int .i64 a0_1) := (blk_cell BK581.out 1).trans rfl); (have hfz15_0 := blk_frozen BK581.out 0); (have hfz15_1 := blk_frozen BK581.out 1); (have hcz16_0 : w5.cell? ⟨gb582, 0, none⟩ = some (.slice A1_0 l1_0.length c1_0) := (blk_cell BK582.out 0).trans rfl); (have hcz16_1 : w5.cell? ⟨gb582, 1, none⟩ = some (.int .i64 a1_1) := (blk_cell BK582.out 1).trans rfl); (have hfz16_0 := blk_frozen BK582.out 0); (have hfz16_1 := blk_frozen BK582.out 1); go_wp2; go_ret; (exact ⟨by first | rfl | (simp [errW_none, errW_some] <;> rfl) | (simp [*, errW_none, errW_some] <;> rfl), by repeat (first | (with_reducible first | exact HB.out | apply ba_ | apply bn_ | apply bd_ | refine below_set ?_ GE581.out | refine below_set ?_ GE582.out) | exact HB.out)⟩)
 ·(replace c9 := Bool.eq_false_iff.mpr c9); subst c9; (have H1 : (some false) = some r := by rw [if_neg (show ¬ (false = true) by decide)] at H; exact H); clear H; (have H := H1); clear H1; (obtain rfl := Option.some.inj H); go_wp2; go_ret; (exact ⟨by first | rfl | (simp [errW_none, errW_some] <;> rfl) | (simp [*, errW_none, errW_some] <;> rfl), by repeat (first | (with_reducible first | exact HB.out | apply ba_ | apply bn_ | apply bd_ | refine below_set ?_ GE581.out | refine below_set ?_ GE582.out) | exact HB.out)⟩)
end Go.Proofs.Ytlbckkagjekhnaa.A

namespace Go.Proofs.Ytlbckkagjekhnaa.A
open Go.RowKit Go.Proofs.YtlbckkagjekhnaaW.PrintWords Go.Proofs.YtlbckkagjekhnaaW.PrintLast Go.Proofs.YtlbckkagjekhnaaW.PrintMore
attribute [local go_sem] max2_int min2_int max_two min_two max_three min_three max_four min_four   -- for this text's walks alone
set_option linter.unusedVariables false
set_option linter.unusedSimpArgs false
def laws_eqStageS.l0 : Nat → List (S98) → List (S98) → Int → Option (Bool)
  | 0, _, _, _ => none
  | k + 1, x0, x1, x5 => if x5 < (x0.length : Int) then (if 0 ≤ x5 then (if x5 < (x1.length : Int) then ((laws_eqStage.f k ((rd_T98 x0 x5).f0) ((rd_T98 x0 x5).f1) ((rd_T98 x1 x5).f0) ((rd_T98 x1 x5).f1)).bind fun t586 => (if t586 = true then (laws_eqStageS.l0 k x0 x1 (wrap64 (x5 + 1))) else (some false))) else (none)) else (none)) else (some true)
def laws_eqStageS.f (k : Nat) (l0 : List (S98)) (l1 : List (S98)) : Option (Bool) := if (l0.length : Int) = (l1.length : Int) then (laws_eqStageS.l0 k l0 l1 0) else (some false)
def laws_eqStageS.T6 : Bool × List (List Nat × List Nat) := (true, [([], []), ([], []), ([0, 1], [0, 1]), ([2], [2]), ([], []), ([], []), ([4, 5], [4, 5]), ([6], [6]), ([3, 7], [3, 7]), ([8], [8])])
def laws_eqStageS.B6 : List Nat := [0, 0, 3, 7, 0, 0, 48, 112, 255, 511]
theorem laws_eqStageS.tab6 : rtab .any (opsOf Try.f31 6) = laws_eqStageS.T6 := by kernel_rfl
theorem laws_eqStageS.bits6 : waitsOk laws_eqStageS.T6.2 laws_eqStageS.B6 = true := by kernel_rfl
set_option maxHeartbeats 8000000 in
set_option maxRecDepth 100000 in
theorem laws_eqStageS.calls (k : Nat) (A0 : Option Addr) (c0 : Nat) (l0 : List (S98)) (A1 : Option Addr) (c1 : Nat) (l1 : List (S98)) (r : Bool) (w : World) (hr0 : Kd.C k98 w A0 l0.length l0) (hc0 : l0.length ≤ c0) (hr1 : Kd.C k98 w A1 l1.length l1) (hc1 : l1.length ≤ c1) (h : laws_eqStageS.f k l0 l1 = some r) :
    Calls Try.prog 31 #[.slice A0 l0.length c0, .slice A1 l1.length c1] w fun e w' => e = .returned (.bool r) ∧ Below w.heap.size w w' := by
 (have hu98 := Try.underlying98); (have HR0 := A0_ hr0); (have HC0 := A0_ hc0); clear hr0 hc0; (have HR1 := A0_ hr1); (have HC1 := A0_ hc1); clear hr1 hc1; (have HB := A0_ (Below.refl w.heap.size w)); (have H : (if (l0.length : Int) = (l1.length : Int) then (laws_eqStageS.l0 k l0 l1 0) else (some false)) = some r := h); clear h; (by_cases c3 : (l0.length : Int) = (l1.length : Int))
 ·(rw [if_pos c3] at H); (have c3b0 : ((l0.length : Int) == (l1.length : Int)) = true := beq_iff_eq.mpr c3); (have c3b1 : ((l0.length : Int) != (l1.length : Int)) = false := bne_eq_false_iff_eq.mpr c3); (have c3b2 : (l0.length == l1.length) = true := by first | simpa using c3 | (simp at c3 ⊢; omega)); clear c3; (have H' := A0_ H); clear H; (go_enter Try.func31, Try.ntmps31); go_wp2
  go_loopg [5] k (fun kq v5 w' => ∃ (x5_1 : Int), v5 = .int .i64 x5_1 ∧ Aside0 (laws_eqStageS.l0 kq l0 l1 x5_1 = some r) ∧ Aside0 (kq ≤ k) ∧ Aside0 (Below w.heap.size w w'))
  case atStart => exact ⟨(0), (by first | rfl | (simp; done) | (simp [*]; done)), H', ⟨Nat.le_refl _⟩, ⟨by repeat (first | (with_reducible first | exact HB.out | apply ba_ | apply bn_ | apply bd_) | exact HB.out)⟩⟩
  case round =>
   clear H'; (try clear c1); (try clear p2); (try clear c3); (try clear c3b0); (try clear c3b1); (try clear c3b2); (obtain ⟨x5_1, rfl, HA, HK1, HB⟩ := hrel)
   cases gk with
   | zero => exact absurd HA.out (by simp [laws_eqStageS.l0])
   | succ k1 =>
    (have H := HA.out); clear HA; (simp only [laws_eqStageS.l0] at H); (by_cases c4 : x5_1 < (l0.length : Int))
    ·(rw [if_pos c4] at H); (have c4b0 : decide (x5_1 < (l0.length : Int)) = true := decide_eq_true c4); clear c4; (by_cases c5 : 0 ≤ x5_1)
     ·(rw [if_pos c5] at H); (have c5b0 : decide (0 ≤ x5_1) = true := decide_eq_true c5); clear c5; (by_cases c6 : x5_1 < (l1.length : Int))
      ·(rw [if_pos c6] at H); (have c6b0 : decide (x5_1 < (l1.length : Int)) = true := decide_eq_true c6); clear c6; (replace H := Option.bind_eq_some_iff.mp H); (obtain ⟨t586, A70, H⟩ := H); (try dsimp only at H); (have A7 := A0_ A70); clear A70; (by_cases c8 : t586 = true)
       ·subst c8; (have H1 := H); (rw [if_pos rfl] at H1); clear H; (have H := H1); clear H1; (have H' := A0_ H); clear H; (try go_wp2); (have n0_ := A0_ (below_drew1 HB.out)); clear HB; (have HB := n0_); clear n0_; (have p584 : 0 ≤ (x5_1 : Int) := of_decide_eq_true (by first | (with_reducible assumption) | assumption)); (have q584 : x5_1 < (l0.length : Int) := of_decide_eq_true (by first | (with_reducible assumption) | assumption)); (obtain ⟨ad584, A584_0, c584_0, e584, hx584_0, hx584_1, hl584_0, hi584_0⟩ := at_T98 HR0.out x5_1 p584 q584); (have hw584_1 := hx584_1); (have hw584_0 := hx584_0); (cases e584); (replace hx584_0 := (HB.out.cell (World.block_lt_of_cell? w _ hx584_0)).trans hx584_0); (replace hx584_1 := (HB.out.cell (World.block_lt_of_cell? w _ hx584_1)).trans hx584_1); (have HR584_0 := A0_ hi584_0); (have HC584_0 := A0_ hl584_0); clear hi584_0 hl584_0; (replace p584 := eq_true p584); (replace q584 := eq_true q584); (have p585 : 0 ≤ (x5_1 : Int) := of_decide_eq_true (by first | (with_reducible assumption) | assumption)); (have q585 : x5_1 < (l1.length : Int) := of_decide_eq_true (by first | (with_reducible assumption) | assumption)); (obtain ⟨ad585, A585_0, c585_0, e585, hx585_0, hx585_1, hl585_0, hi585_0⟩ := at_T98 HR1.out x5_1 p585 q585); (have hw585_1 := hx585_1); (have hw585_0 := hx585_0); (cases e585); (replace hx585_0 := (HB.out.cell (World.block_lt_of_cell? w _ hx585_0)).trans hx585_0); (replace hx585_1 := (HB.out.cell (World.block_lt_of_cell? w _ hx585_1)).trans hx585_1); (have HR585_0 := A0_ hi585_0); (have HC585_0 := A0_ hl585_0); clear hi585_0 hl585_0; (replace p585 := eq_true p585); (replace q585 := eq_true q585)
        refine start_ (n := 10) (S := fun w' => w'.cell? (ad584.add ((x5_1).toNat * 2)) = some (.slice A584_0 ((rd_T98 l0 x5_1).f0).length c584_0) ∧ w'.cell? ⟨(ad584.add ((x5_1).toNat * 2)).block, (ad584.add ((x5_1).toNat * 2)).off + 1, none⟩ = some (.int .i64 ((rd_T98 l0 x5_1).f1)) ∧ w'.cell? (ad585.add ((x5_1).toNat * 2)) = some (.slice A585_0 ((rd_T98 l1 x5_1).f0).length c585_0) ∧ w'.cell? ⟨(ad585.add ((x5_1).toNat * 2)).block, (ad585.add ((x5_1).toNat * 2)).off + 1, none⟩ = some (.int .i64 ((rd_T98 l1 x5_1).f1))) (ds := []) #[ff,ff,ff,ff,ff,ff,ff,ff,ff,ff] (by kernel_rfl) rfl rfl ⟨((HB.out.cell (World.block_lt_of_cell? w _ hw584_0)).trans hw584_0), ((HB.out.cell (World.block_lt_of_cell? w _ hw584_1)).trans hw584_1), ((HB.out.cell (World.block_lt_of_cell? w _ hw585_0)).trans hw585_0), ((HB.out.cell (World.block_lt_of_cell? w _ hw585_1)).trans hw585_1)⟩ (fun hHeld => ?_); refine with_tabW laws_eqStageS.tab6 laws_eqStageS.bits6 (fun HT_ HW_ => ?_)
        (generalize wr.drew = w9 at HB HR584_0 HR585_0 hx584_0 hx584_1 hx585_0 hx585_1 hHeld ⊢)
        refine pure_ (i := 0) (N := some 17) (v := ?_) (a' := ?_) #[tt,ff,ff,ff,ff,ff,ff,ff,ff,ff] rfl rfl (any_of HT_.out (by kernel_rfl)) (fun _ _ _ h => h) (Or.inl ⟨by rfl, ?_⟩) ?_ ?_
        rotate_left
        ·intro w'; go_simp; with_reducible rfl
        rotate_left
        ·(simp only [Act.put, sia_, sz_, ss_, i64_w, i32_w]); rfl
        refine pure_ (i := 1) (N := some 18) (v := ?_) (a' := ?_) #[tt,tt,ff,ff,ff,ff,ff,ff,ff,ff] rfl rfl (any_of HT_.out (by kernel_rfl)) (fun _ _ _ h => h) (Or.inl ⟨by rfl, ?_⟩) ?_ ?_
        rotate_left
        ·intro w'; go_simp; with_reducible rfl
        rotate_left
        ·(simp only [Act.put, sia_, sz_, ss_, i64_w, i32_w]); rfl
        refine pure_ (i := 2) (N := some 19) (v := ?_) (a' := ?_) #[tt,tt,tt,ff,ff,ff,ff,ff,ff,ff] rfl rfl (any_of HT_.out (by kernel_rfl)) (fun _ _ _ h => h) (Or.inl ⟨by rfl, ?_⟩) ?_ ?_
        rotate_left
        ·intro w'; go_simp; with_reducible rfl
        rotate_left
        ·(simp only [Act.put, sia_, sz_, ss_, i64_w, i32_w]); rfl
        refine pure_ (i := 4) (N := some 21) (v := ?_) (a' := ?_) #[tt,tt,tt,ff,tt,ff,ff,ff,ff,ff] rfl rfl (any_of HT_.out (by kernel_rfl)) (fun _ _ _ h => h) (Or.inl ⟨by rfl, ?_⟩) ?_ ?_
        rotate_left
        ·intro w'; go_simp; with_reducible rfl
        rotate_left
        ·(simp only [Act.put, sia_, sz_, ss_, i64_w, i32_w]); rfl
        refine pure_ (i := 5) (N := some 22) (v := ?_) (a' := ?_) #[tt,tt,tt,ff,tt,tt,ff,ff,ff,ff] rfl rfl (any_of HT_.out (by kernel_rfl)) (fun _ _ _ h => h) (Or.inl ⟨by rfl, ?_⟩) ?_ ?_
        rotate_left
        ·intro w'; go_simp; with_reducible rfl
        rotate_left
        ·(simp only [Act.put, sia_, sz_, ss_, i64_w, i32_w]); rfl
        refine pure_ (i := 6) (N := some 23) (v := ?_) (a' := ?_) #[tt,tt,tt,ff,tt,tt,tt,ff,ff,ff] rfl rfl (any_of HT_.out (by kernel_rfl)) (fun _ _ _ h => h) (Or.inl ⟨by rfl, ?_⟩) ?_ ?_
        rotate_left
        ·intro w'; go_simp; with_reducible rfl
        rotate_left
        ·(simp only [Act.put, sia_, sz_, ss_, i64_w, i32_w]); rfl
        refine take_ (i := 3) (N := some 20) (v := ?_) (a' := ?_) #[tt,tt,tt,tt,tt,tt,tt,ff,ff,ff] rfl rfl (take_ofW HT_.out HW_.out (by kernel_rfl)) (fun _ _ _ h => h) (Or.inl ⟨by rfl, ?_⟩) hHeld ?_ ?_
        rotate_left
        ·(rintro w' ⟨s0, s1, s2, s3⟩); go_simp; with_reducible rfl
        rotate_left
        ·(simp only [Act.put, sia_, sz_, ss_, i64_w, i32_w]); rfl
        refine take_ (i := 7) (N := some 24) (v := ?_) (a' := ?_) #[tt,tt,tt,tt,tt,tt,tt,tt,ff,ff] rfl rfl (take_ofW HT_.out HW_.out (by kernel_rfl)) (fun _ _ _ h => h) (Or.inl ⟨by rfl, ?_⟩) hHeld ?_ ?_
        rotate_left
        ·(rintro w' ⟨s0, s1, s2, s3⟩); go_simp; with_reducible rfl
        rotate_left
        ·(simp only [Act.put, sia_, sz_, ss_, i64_w, i32_w]); rfl
        refine one_ (i := 8) (N := some 25) #[tt,tt,tt,tt,tt,tt,tt,tt,tt,ff] rfl rfl (one_of HT_.out (by kernel_rfl)) (by decide) (fun K hK => ?_)
        (refine goes_ Try.func64 (by kernel_rfl) rfl #[.agg #[.slice A584_0 ((rd_T98 l0 x5_1).f0).length c584_0, .int .i64 ((rd_T98 l0 x5_1).f1)], .agg #[.slice A585_0 ((rd_T98 l1 x5_1).f0).length c585_0, .int .i64 ((rd_T98 l1 x5_1).f1)]] (by rfl) rfl rfl (by (try simp only [List.map_toArray, List.map_cons, List.map_nil]); first | done | rfl | (simp only [List.length_drop, List.length_take]; rfl)) ?_); (with_reducible refine (laws_eqStage.calls k1 _ _ ((rd_T98 l0 x5_1).f0) ((rd_T98 l0 x5_1).f1) _ _ ((rd_T98 l1 x5_1).f0) ((rd_T98 l1 x5_1).f1) true _ ?side1 ?side2 ?side3 ?side4 A7.out).mono ?_); ((case side1 => repeat (first | exact (Kd.C_below HR584_0.out HB.out) | (with_reducible refine Kd.C_alloc ?_ _) | (with_reducible refine Kd.C_drewN ?_ _) | (with_reducible refine Kd.C_drew ?_)))); ((case side2 => exact HC584_0.out)); ((case side3 => repeat (first | exact (Kd.C_below HR585_0.out HB.out) | (with_reducible refine Kd.C_alloc ?_ _) | (with_reducible refine Kd.C_drewN ?_ _) | (with_reducible refine Kd.C_drew ?_)))); ((case side4 => exact HC585_0.out)); (rintro e w10 ⟨rfl, hb⟩); (refine ⟨_, rfl, ?_⟩); (have n0_ := A0_ (below_step (by repeat (first | (with_reducible first | exact HB.out | apply ba_ | apply bn_ | apply bd_) | exact HB.out)) hb)); clear HB; (have HB := n0_); clear n0_; ((try clear hb)); ((try clear hb2)); ((try clear hk)); ((try clear hi))
        refine hK.out _ _ ⟨((HB.out.cell (World.block_lt_of_cell? w _ hw584_0)).trans hw584_0), ((HB.out.cell (World.block_lt_of_cell? w _ hw584_1)).trans hw584_1), ((HB.out.cell (World.block_lt_of_cell? w _ hw585_0)).trans hw585_0), ((HB.out.cell (World.block_lt_of_cell? w _ hw585_1)).trans hw585_1)⟩ (fun hHeld => ?_)
        clear hK K; (refine norm_ (a' := ?_) ?_ ?_); rotate_left
        ·(show Act.put _ (some 25) _ = _); (simp only [Act.put, sia_, sz_, ss_, i64_w, i32_w]); rfl
        refine pure_ (i := 9) (N := some 26) (v := ?_) (a' := ?_) #[tt,tt,tt,tt,tt,tt,tt,tt,tt,tt] rfl rfl (any_of HT_.out (by kernel_rfl)) (fun _ _ _ h => h) (Or.inl ⟨by rfl, ?_⟩) ?_ ?_
        rotate_left
        ·intro w'; go_simp; with_reducible rfl
        rotate_left
        ·(simp only [Act.put, sia_, sz_, ss_, i64_w, i32_w]); rfl
        (refine done_ (done_of HT_.out (by kernel_rfl)) ?_); (try go_wp2); (go_roundg k1)
        case measure => have := HK1.out; omega
        case rel => exact ⟨(wrap64 (x5_1 + 1)), (by first | rfl | (simp; done) | (simp [*]; done)), H', ⟨by have := HK1.out; omega⟩, ⟨by repeat (first | (with_reducible first | exact HB.out | apply ba_ | apply bn_ | apply bd_) | exact HB.out)⟩⟩
       ·(replace c8 := Bool.eq_false_iff.mpr c8); subst c8; (have H1 : (some false) = some r := by rw [if_neg (show ¬ (false = true) by decide)] at H; exact H); clear H; (have H := H1); clear H1; (obtain rfl := Option.some.inj H); (try go_wp2); (have n0_ := A0_ (below_drew1 HB.out)); clear HB; (have HB := n0_); clear n0_; (have p584 : 0 ≤ (x5_1 : Int) := of_decide_eq_true (by first | (with_reducible assumption) | assumption)); (have q584 : x5_1 < (l0.length : Int) := of_decide_eq_true (by first | (with_reducible assumption) | assumption)); (obtain ⟨ad584, A584_0, c584_0, e584, hx584_0, hx584_1, hl584_0, hi584_0⟩ := at_T98 HR0.out x5_1 p584 q584); (have hw584_1 := hx584_1); (have hw584_0 := hx584_0); (cases e584); (replace hx584_0 := (HB.out.cell (World.block_lt_of_cell? w _ hx584_0)).trans hx584_0); (replace hx584_1 := (HB.out.cell (World.block_lt_of_cell? w _ hx584_1)).trans hx584_1); (have HR584_0 := A0_ hi584_0); (have HC584_0 := A0_ hl584_0); clear hi584_0 hl584_0; (replace p584 := eq_true p584); (replace q584 := eq_true q584); (have p585 : 0 ≤ (x5_1 : Int) := of_decide_eq_true (by first | (with_reducible assumption) | assumption)); (have q585 : x5_1 < (l1.length : Int) := of_decide_eq_true (by first | (with_reducible assumption) | assumption)); (obtain ⟨ad585, A585_0, c585_0, e585, hx585_0, hx585_1, hl585_0, hi585_0⟩ := at_T98 HR1.out x5_1 p585 q585); (have hw585_1 := hx585_1); (have hw585_0 := hx585_0); (cases e585); (replace hx585_0 := (HB.out.cell (World.block_lt_of_cell? w _ hx585_0)).trans hx585_0); (replace hx585_1 := (HB.out.cell (World.block_lt_of_cell? w _ hx585_1)).trans hx585_1); (have HR585_0 := A0_ hi585_0); (have HC585_0 := A0_ hl585_0); clear hi585_0 hl585_0; (replace p585 := eq_true p585); (replace q585 := eq_true q585)
        refine start_ (n := 10) (S := fun w' => w'.cell? (ad584.add ((x5_1).toNat * 2)) = some (.slice A584_0 ((rd_T98 l0 x5_1).f0).length c584_0) ∧ w'.cell? ⟨(ad584.add ((x5_1).toNat * 2)).block, (ad584.add ((x5_1).toNat * 2)).off + 1, none⟩ = some (.int .i64 ((rd_T98 l0 x5_1).f1)) ∧ w'.cell? (ad585.add ((x5_1).toNat * 2)) = some (.slice A585_0 ((rd_T98 l1 x5_1).f0).length c585_0) ∧ w'.cell? ⟨(ad585.add ((x5_1).toNat * 2)).block, (ad585.add ((x5_1).toNat * 2)).off + 1, none⟩ = some (.int .i64 ((rd_T98 l1 x5_1).f1))) (ds := []) #[ff,ff,ff,ff,ff,ff,ff,ff,ff,ff] (by kernel_rfl) rfl rfl ⟨((HB.out.cell (World.block_lt_of_cell? w _ hw584_0)).trans hw584_0), ((HB.out.cell (World.block_lt_of_cell? w _ hw584_1)).trans hw584_1), ((HB.out.cell (World.block_lt_of_cell? w _ hw585_0)).trans hw585_0), ((HB.out.cell (World.block_lt_of_cell? w _ hw585_1)).trans hw585_1)⟩ (fun hHeld => ?_); refine with_tabW laws_eqStageS.tab6 laws_eqStageS.bits6 (fun HT_ HW_ => ?_)
        (generalize wr.drew = w11 at HB HR584_0 HR585_0 hx584_0 hx584_1 hx585_0 hx585_1 hHeld ⊢)
        refine pure_ (i := 0) (N := some 17) (v := ?_) (a' := ?_) #[tt,ff,ff,ff,ff,ff,ff,ff,ff,ff] rfl rfl (any_of HT_.out (by kernel_rfl)) (fun _ _ _ h => h) (Or.inl ⟨by rfl, ?_⟩) ?_ ?_
        rotate_left
        ·intro w'; go_simp; with_reducible rfl
        rotate_left
        ·(simp only [Act.put, sia_, sz_, ss_, i64_w, i32_w]); rfl
        refine pure_ (i := 1) (N := some 18) (v := ?_) (a' := ?_) #[tt,tt,ff,ff,ff,ff,ff,ff,ff,ff] rfl rfl (any_of HT_.out (by kernel_rfl)) (fun _ _ _ h => h) (Or.inl ⟨by rfl, ?_⟩) ?_ ?_
        rotate_left
        ·intro w'; go_simp; with_reducible rfl
        rotate_left
        ·(simp only [Act.put, sia_, sz_, ss_, i64_w, i32_w]); rfl
        refine pure_ (i := 2) (N := some 19) (v := ?_) (a' := ?_) #[tt,tt,tt,ff,ff,ff,ff,ff,ff,ff] rfl rfl (any_of HT_.out (by kernel_rfl)) (fun _ _ _ h => h) (Or.inl ⟨by rfl, ?_⟩) ?_ ?_
        rotate_left
        ·intro w'; go_simp; with_reducible rfl
        rotate_left
        ·(simp only [Act.put, sia_, sz_, ss_, i64_w, i32_w]); rfl
        refine pure_ (i := 4) (N := some 21) (v := ?_) (a' := ?_) #[tt,tt,tt,ff,tt,ff,ff,ff,ff,ff] rfl rfl (any_of HT_.out (by kernel_rfl)) (fun _ _ _ h => h) (Or.inl ⟨by rfl, ?_⟩) ?_ ?_
        rotate_left
        ·intro w'; go_simp; with_reducible rfl
        rotate_left
        ·(simp only [Act.put, sia_, sz_, ss_, i64_w, i32_w]); rfl
        refine pure_ (i := 5) (N := some 22) (v := ?_) (a' := ?_) #[tt,tt,tt,ff,tt,tt,ff,ff,ff,ff] rfl rfl (any_of HT_.out (by kernel_rfl)) (fun _ _ _ h => h) (Or.inl ⟨by rfl, ?_⟩) ?_ ?_
        rotate_left
        ·intro w'; go_simp; with_reducible rfl
        rotate_left
        ·(simp only [Act.put, sia_, sz_, ss_, i64_w, i32_w]); rfl
        refine pure_ (i := 6) (N := some 23) (v := ?_) (a' := ?_) #[tt,tt,tt,ff,tt,tt,tt,ff,ff,ff] rfl rfl (any_of HT_.out (by kernel_rfl)) (fun _ _ _ h => h) (Or.inl ⟨by rfl, ?_⟩) ?_ ?_
        rotate_left
        ·intro w'; go_simp; with_reducible rfl
        rotate_left
        ·(simp only [Act.put, sia_, sz_, ss_, i64_w, i32_w]); rfl
        refine take_ (i := 3) (N := some 20) (v := ?_) (a' := ?_) #[tt,tt,tt,tt,tt,tt,tt,ff,ff,ff] rfl rfl (take_ofW HT_.out HW_.out (by kernel_rfl)) (fun _ _ _ h => h) (Or.inl ⟨by rfl, ?_⟩) hHeld ?_ ?_
        rotate_left
        ·(rintro w' ⟨s0, s1, s2, s3⟩); go_simp; with_reducible rfl
        rotate_left
        ·(simp only [Act.put, sia_, sz_, ss_, i64_w, i32_w]); rfl
        refine take_ (i := 7) (N := some 24) (v := ?_) (a' := ?_) #[tt,tt,tt,tt,tt,tt,tt,tt,ff,ff] rfl rfl (take_ofW HT_.out HW_.out (by kernel_rfl)) (fun _ _ _ h => h) (Or.inl ⟨by rfl, ?_⟩) hHeld ?_ ?_
        rotate_left
        ·(rintro w' ⟨s0, s1, s2, s3⟩); go_simp; with_reducible rfl
        rotate_left
        ·(simp only [Act.put, sia_, sz_, ss_, i64_w, i32_w]); rfl
        refine one_ (i := 8) (N := some 25) #[tt,tt,tt,tt,tt,tt,tt,tt,tt,ff] rfl rfl (one_of HT_.out (by kernel_rfl)) (by decide) (fun K hK => ?_)
        (refine goes_ Try.func64 (by kernel_rfl) rfl #[.agg #[.slice A584_0 ((rd_T98 l0 x5_1).f0).length c584_0, .int .i64 ((rd_T98 l0 x5_1).f1)], .agg #[.slice A585_0 ((rd_T98 l1 x5_1).f0).length c585_0, .int .i64 ((rd_T98 l1 x5_1).f1)]] (by rfl) rfl rfl (by (try simp only [List.map_toArray, List.map_cons, List.map_nil]); first | done | rfl | (simp only [List.length_drop, List.length_take]; rfl)) ?_); (with_reducible refine (laws_eqStage.calls k1 _ _ ((rd_T98 l0 x5_1).f0) ((rd_T98 l0 x5_1).f1) _ _ ((rd_T98 l1 x5_1).f0) ((rd_T98 l1 x5_1).f1) false _ ?side1 ?side2 ?side3 ?side4 A7.out).mono ?_); ((case side1 => repeat (first | exact (Kd.C_below HR584_0.out HB.out) | (with_reducible refine Kd.C_alloc ?_ _) | (with_reducible refine Kd.C_drewN ?_ _) | (with_reducible refine Kd.C_drew ?_)))); ((case side2 => exact HC584_0.out)); ((case side3 => repeat (first | exact (Kd.C_below HR585_0.out HB.out) | (with_reducible refine Kd.C_alloc ?_ _) | (with_reducible refine Kd.C_drewN ?_ _) | (with_reducible refine Kd.C_drew ?_)))); ((case side4 => exact HC585_0.out)); (rintro e w12 ⟨rfl, hb⟩); (refine ⟨_, rfl, ?_⟩); (have n0_ := A0_ (below_step (by repeat (first | (with_reducible first | exact HB.out | apply ba_ | apply bn_ | apply bd_) | exact HB.out)) hb)); clear HB; (have HB := n0_); clear n0_; ((try clear hb)); ((try clear hb2)); ((try clear hk)); ((try clear hi))
        refine hK.out _ _ ⟨((HB.out.cell (World.block_lt_of_cell? w _ hw584_0)).trans hw584_0), ((HB.out.cell (World.block_lt_of_cell? w _ hw584_1)).trans hw584_1), ((HB.out.cell (World.block_lt_of_cell? w _ hw585_0)).trans hw585_0), ((HB.out.cell (World.block_lt_of_cell? w _ hw585_1)).trans hw585_1)⟩ (fun hHeld => ?_)
        clear hK K; (refine norm_ (a' := ?_) ?_ ?_); rotate_left
        ·(show Act.put _ (some 25) _ = _); (simp only [Act.put, sia_, sz_, ss_, i64_w, i32_w]); rfl
        refine pure_ (i := 9) (N := some 26) (v := ?_) (a' := ?_) #[tt,tt,tt,tt,tt,tt,tt,tt,tt,tt] rfl rfl (any_of HT_.out (by kernel_rfl)) (fun _ _ _ h => h) (Or.inl ⟨by rfl, ?_⟩) ?_ ?_
        rotate_left
        ·intro w'; go_simp; with_reducible rfl
        rotate_left
        ·(simp only [Act.put, sia_, sz_, ss_, i64_w, i32_w]); rfl
        (refine done_ (done_of HT_.out (by kernel_rfl)) ?_); (try go_wp2); go_ret; (exact ⟨by first | rfl | (simp [errW_none, errW_some] <;> rfl) | (simp [*, errW_none, errW_some] <;> rfl), by repeat (first | (with_reducible first | exact HB.out | apply ba_ | apply bn_ | apply bd_) | exact HB.out)⟩)
      ·(rw [if_neg c6] at H); (exact absurd H (by simp))
     ·(rw [if_neg c5] at H); (exact absurd H (by simp))
    ·(rw [if_neg c4] at H); (have c4b0 : decide (x5_1 < (l0.length : Int)) = false := decide_eq_false c4); clear c4; (obtain rfl := Option.some.inj H); go_wp2; go_ret; (exact ⟨by first | rfl | (simp [errW_none, errW_some] <;> rfl) | (simp [*, errW_none, errW_some] <;> rfl), by repeat (first | (with_reducible first | exact HB.out | apply ba_ | apply bn_ | apply bd_) | exact HB.out)⟩)
 ·(rw [if_neg c3] at H); (have c3b0 : ((l0.length : Int) == (l1.length : Int)) = false := beq_eq_false_iff_ne.mpr c3); (have c3b1 : ((l0.length : Int) != (l1.length : Int)) = true := bne_iff_ne.mpr c3); (have c3b2 : (l0.length == l1.length) = false := by first | simpa using c3 | (simp at c3 ⊢; omega)); (obtain rfl := Option.some.inj H); (go_enter Try.func31, Try.ntmps31); go_wp2; go_ret; (exact ⟨by first | rfl | (simp [errW_none, errW_some] <;> rfl) | (simp [*, errW_none, errW_some] <;> rfl), by repeat (first | (with_reducible first | exact HB.out | apply ba_ | apply bn_ | apply bd_) | exact HB.out)⟩)
end Go.Proofs.Ytlbckkagjekhnaa.A


/- What the burrs' laws do with stages: sizes, copies, comparisons. No program in sight. -/
namespace Go.Proofs.Ytlbckkagjekhnaa.A
open Go.RowKit Go.Proofs.YtlbckkagjekhnaaW.PrintWords Go.Proofs.YtlbckkagjekhnaaW.PrintLast Go.Proofs.YtlbckkagjekhnaaW.PrintMore
set_option linter.unusedVariables false
set_option linter.unusedSimpArgs false
abbrev Lg := S95
abbrev Ig := S98
def toSg (s : Lg) : Ig := ⟨s.f0, s.f1⟩
theorem szT_ev (l : List Lg) (a : Int) (ha : 0 ≤ a ∧ a ≤ 1048576) (h1 : l.length ≤ maxLen) (h2 : ∀ r ∈ l, r.f0.length ≤ maxLen) : Ev (fun k => laws_szStageS.f k l a) (szL (l.map (·.f0)) a) := by
  unfold maxLen at h1 h2
  unfold laws_szStageS.f szL
  rw [List.length_map]
  have e : wrap64 (a - (l.length : Int)) = a - (l.length : Int) := by unfold wrap64; omega
  rw [e]
  by_cases c : a - (l.length : Int) < 0
  · simp only [c, if_true]
    exact Ev.now _
  · simp only [c, if_false]
    have := ev_listI l (fun (s : Int) (_ : Nat) => 0 ≤ s ∧ s ≤ 1048576) (fun s i k => laws_szStageS.l0 k l s i) (fun s l => szV (l.map (·.f0)) s) (fun s hi => ?_) (fun s j hj hi ih => ?_) l.length 0 (a - (l.length : Int)) (by omega) ⟨by omega, by omega⟩
    · simpa using this
    · exact Ev.step (f := fun _ => some s) (fun k => by simp only [laws_szStageS.l0]; rw [if_neg (by omega)]) (Ev.now _)
    · have hg : rd_T95 l (j : Int) = l[j] := by unfold rd_T95; exact getD_nat l _ j hj
      have hr := h2 l[j] (List.getElem_mem hj)
      have ew : wrap64 (s - (l[j].f0.length : Int)) = s - (l[j].f0.length : Int) := by unfold wrap64; omega
      refine Ev.succ ?_
      simp only [laws_szStageS.l0, laws_szStage.f, show (j : Int) < (l.length : Int) from by omega, show (0 : Int) ≤ (j : Int) from by omega, if_true, hg, laws_szInt64S.f, ew, wrap_succ j (by omega)]
      rw [show szV ((l[j] :: l.drop (j + 1)).map (·.f0)) s = if s - (l[j].f0.length : Int) < 0 then -1 else szV ((l.drop (j + 1)).map (·.f0)) (s - (l[j].f0.length : Int)) from rfl]
      by_cases c2 : s - (l[j].f0.length : Int) < 0
      · simp only [c2, if_true, Option.bind_some, show ((-1 : Int) < 0) from by decide]
        exact Ev.now _
      · simp only [c2, if_false, Option.bind_some]
        exact ih _ ⟨by omega, by omega⟩
theorem toInt64S_ev (l : List Int) (h : l.length ≤ 1048576) : Ev (fun k => laws_toInt64S.f k l) l := by
  unfold laws_toInt64S.f
  simp only [Int.toNat_natCast, show (0 : Int) ≤ l.length from by omega, show l.length ≤ 35184372088832 from by omega, if_true]
  refine ev_at l.length (fun s j => s = (l.take j).map id ++ List.replicate (l.length - j) 0) l (fun s i k => laws_toInt64S.l0 k l s i) (fun s hi => ?_) (fun s j hj hi => ?_) _ (by simp)
  · refine Ev.step (f := fun _ => some s) (fun k => by simp only [laws_toInt64S.l0]; rw [if_neg (by omega)]) ?_
    rw [hi]
    simpa using Ev.now _
  · have hl : s.length = l.length := by rw [hi]; simp; omega
    have hg : rd l (j : Int) = l[j] := rd_nat l j hj
    refine ⟨s.set j (id l[j]), by rw [hi]; exact set_fill id _ l j hj, fun h2 => Ev.step (fun k => ?_) h2⟩
    simp only [laws_toInt64S.l0, hg]
    rw [if_pos (by omega), if_pos (by omega), if_pos (by omega), wrap_succ j (by omega), Int.toNat_natCast]
    rfl
theorem toStageS_ev (l : List Lg) (h : SzOk (l.map (·.f0))) : Ev (fun k => laws_toStageS.f k l) (l.map toSg) := by
  have h1 := h.len
  rw [List.length_map] at h1
  unfold laws_toStageS.f
  simp only [Int.toNat_natCast, show (0 : Int) ≤ l.length from by omega, show l.length ≤ 8796093022208 from by omega, if_true]
  refine ev_at l.length (fun s j => s = (l.take j).map toSg ++ List.replicate (l.length - j) z98) (l.map toSg) (fun s i k => laws_toStageS.l0 k l s i) (fun s hi => ?_) (fun s j hj hi => ?_) (List.replicate l.length z98) (by simp)
  · refine Ev.step (f := fun _ => some s) (fun k => by simp only [laws_toStageS.l0]; rw [if_neg (by omega)]) ?_
    rw [hi]
    simpa using Ev.now _
  · have hl : s.length = l.length := by rw [hi]; simp; omega
    have hg : rd_T95 l (j : Int) = l[j] := by unfold rd_T95; exact getD_nat l _ j hj
    refine ⟨s.set j (toSg l[j]), by rw [hi]; exact set_fill toSg _ l j hj, fun h2 => Ev.succ ?_⟩
    simp only [laws_toStageS.l0, laws_toStage.f, show (j : Int) < (l.length : Int) from by omega, show (0 : Int) ≤ (j : Int) from by omega, show (j : Int) < (s.length : Int) from by omega, if_true, hg, wrap_succ j (by omega), Int.toNat_natCast]
    refine Ev.bind (Ev.bind (toInt64S_ev l[j].f0 (h.each _ (List.mem_map.2 ⟨_, List.getElem_mem hj, rfl⟩))) (Ev.now (l[j].f0, l[j].f1))) ?_
    exact h2
theorem eqStageS_ev (l : List Ig) (h : SzOk (l.map (·.f0))) : Ev (fun k => laws_eqStageS.f k l l) true := by
  have h1 := h.len
  rw [List.length_map] at h1
  unfold laws_eqStageS.f
  simp only [if_true]
  refine ev_at l.length (fun (_ : Unit) _ => True) true (fun _ i k => laws_eqStageS.l0 k l l i) (fun s hi => ?_) (fun s j hj hi => ?_) () trivial
  · exact Ev.step (f := fun _ => some true) (fun k => by simp only [laws_eqStageS.l0]; rw [if_neg (by omega)]) (Ev.now _)
  · have hg : rd_T98 l (j : Int) = l[j] := by unfold rd_T98; exact getD_nat l _ j hj
    refine ⟨(), trivial, fun h2 => Ev.succ ?_⟩
    simp only [laws_eqStageS.l0, laws_eqStage.f, show (j : Int) < (l.length : Int) from by omega, show (0 : Int) ≤ (j : Int) from by omega, if_true, hg, wrap_succ j (by omega)]
    refine Ev.bind (a := true) (Ev.bind (eqInt64S_ev l[j].f0 (h.each _ (List.mem_map.2 ⟨_, List.getElem_mem hj, rfl⟩))) (by simpa using Ev.now true)) ?_
    simpa using h2
theorem toSg_f0 (l : List Lg) : (l.map toSg).map (·.f0) = l.map (·.f0) := by rw [List.map_map]; rfl
theorem toSg_ok {l : List Lg} (h : SzOk (l.map (·.f0))) : SzOk ((l.map toSg).map (·.f0)) := by rw [toSg_f0]; exact h
end Go.Proofs.Ytlbckkagjekhnaa.A

/- Marks of the burrs' laws: numbers written into stages; what is held. -/
namespace Go.Proofs.Ytlbckkagjekhnaa.A
set_option linter.unusedSimpArgs false
set_option linter.unusedVariables false
open Go.RowKit Go.Proofs.YtlbckkagjekhnaaW.PrintWords Go.Proofs.YtlbckkagjekhnaaW.PrintLast Go.Proofs.YtlbckkagjekhnaaW.PrintMore
def tG : List Ig → Int
  | [] => 0
  | s :: ss => (s.f0.length : Int) + 1 + tG ss
theorem tG_nn : ∀ l, 0 ≤ tG l
  | [] => Int.le_refl _
  | s :: ss => by have := tG_nn ss; unfold tG; omega
theorem tG_app : ∀ a b : List Ig, tG (a ++ b) = tG a + tG b
  | [], b => by simp [tG]
  | s :: ss, b => by
    have h1 : tG (s :: (ss ++ b)) = (s.f0.length : Int) + 1 + tG (ss ++ b) := rfl
    have h2 : tG (s :: ss) = (s.f0.length : Int) + 1 + tG ss := rfl
    rw [List.cons_append, h1, h2, tG_app ss b]
    omega
theorem tG_next (l : List Ig) (i : Nat) (h : i < l.length) : tG (l.take (i + 1)) = tG (l.take i) + (l[i].f0.length : Int) + 1 := by
  rw [List.take_succ_eq_append_getElem h, tG_app]
  have h1 : tG [l[i]] = (l[i].f0.length : Int) + 1 + 0 := rfl
  omega
theorem tG_le (l : List Ig) (i : Nat) : tG (l.take i) ≤ tG l ∧ 0 ≤ tG (l.take i) := by
  have h := congrArg tG (List.take_append_drop i l)
  rw [tG_app] at h
  have := tG_nn (l.take i)
  have := tG_nn (l.drop i)
  omega
theorem tG_eq : ∀ l : List Ig, tG l = tot2 (l.map (·.f0)) + (l.length : Int)
  | [] => rfl
  | s :: ss => by
    have h1 : tG (s :: ss) = (s.f0.length : Int) + 1 + tG ss := rfl
    rw [List.map_cons, tot2_cons, h1, tG_eq ss, List.length_cons]
    omega
/-- Numbers from a on, in stages as long as the given ones. -/
def marksG : Int → List Ig → List Ig
  | _, [] => []
  | a, s :: ss => ⟨ints a s.f0.length, a + (s.f0.length : Int)⟩ :: marksG (a + (s.f0.length : Int) + 1) ss
theorem marksG_len : ∀ (l : List Ig) (a : Int), (marksG a l).length = l.length
  | [], _ => rfl
  | s :: ss, a => by simp [marksG, marksG_len ss]
theorem marksG_at : ∀ (l : List Ig) (a : Int) (i : Nat) (h : i < l.length), (marksG a l)[i]? = some ⟨ints (a + tG (l.take i)) l[i].f0.length, a + tG (l.take i) + (l[i].f0.length : Int)⟩
  | s :: ss, a, 0, h => by simp [marksG, tG]
  | s :: ss, a, i + 1, h => by
    simp only [marksG, List.getElem?_cons_succ, List.getElem_cons_succ, List.take_succ_cons]
    rw [marksG_at ss _ i (by simpa using h), show tG (s :: ss.take i) = (s.f0.length : Int) + 1 + tG (ss.take i) from rfl, show a + (s.f0.length : Int) + 1 + tG (ss.take i) = a + ((s.f0.length : Int) + 1 + tG (ss.take i)) by omega]
set_option maxHeartbeats 2000000 in
set_option maxRecDepth 100000 in
theorem laws_markStageS.calls2 (rows : List Ig) (fp : Nat → Prop) (u : Value) (a : Int) (w0 w : World) (hB : Below w0.heap.size w0 w) (hS : Kd.S k98 98 w w0.heap.size fp u rows) (h0 : 0 ≤ a) (h1 : a + tG rows ≤ 1000000000000) (hl : rows.length ≤ 1048576) (hr : ∀ r ∈ rows, r.f0.length ≤ 1048576) :
    Calls Try.prog 39 #[u, .int .i64 a] w fun e w' => e = .returned (.int .i64 (a + tG rows)) ∧ Kd.S k98 98 w' w0.heap.size (fun k => fp k ∨ w.heap.size ≤ k) u (marksG a rows) ∧ Below w0.heap.size w0 w' ∧ Kept w w' fp := by
  have hu98 := Try.underlying98
  obtain ⟨A, c, rfl⟩ := Kd.S_slice hS
  have HS := A0_ (Kd.S_mono (ok' := fun k => fp k ∨ w.heap.size ≤ k) hS (fun k hk => .inl hk))
  have HB := A0_ hB
  have HK := A0_ (Kept.refl w fp)
  have HA := A0_ (And.intro h0 h1)
  have HL := A0_ hl
  have HR := A0_ hr
  clear hS hB h0 h1 hl hr
  go_enter Try.func39, Try.ntmps39
  go_wp2
  go_loopg [1, 5] (rows.length + 1) (fun kq v1 v5 w' => ∃ (i : Nat) (rs : List Ig), v5 = .int .i64 (i : Int) ∧ v1 = .int .i64 (a + tG (rows.take i)) ∧ Aside0 (i ≤ rows.length ∧ kq + i = rows.length + 1 ∧ rs.length = rows.length ∧ (∀ j, i ≤ j → rs[j]? = rows[j]?) ∧ ∀ j, j < i → rs[j]? = (marksG a rows)[j]?) ∧ Aside0 (Kd.S k98 98 w' w0.heap.size (fun k => fp k ∨ w.heap.size ≤ k) (.slice A rows.length c) rs) ∧ Aside0 (Below w0.heap.size w0 w') ∧ Aside0 (Kept w w' fp))
  case atStart => exact ⟨0, rows, rfl, by simp [tG], ⟨by omega, by omega, rfl, fun _ _ => rfl, fun j hj => by omega⟩, HS, HB, HK⟩
  case round =>
    clear HS HB HK
    obtain ⟨i, rs, rfl, rfl, HX, HS, HB, HK⟩ := hrel
    obtain ⟨k1, rfl⟩ : ∃ k1, gk = k1 + 1 := ⟨gk - 1, by have := HX.out; omega⟩
    by_cases ci : i < rows.length
    · have ci0 : decide (i < rows.length) = true := decide_eq_true ci
      have ci1 := eq_true ci
      have hrl := HX.out.2.2.1
      obtain ⟨g, cap, e, hgb, hgl, _⟩ := Kd.S_form HS.out (by omega)
      rw [hrl] at e
      injection e with e1 e2 e3
      subst e1 e3
      obtain ⟨oki, cc, hcl, hM, hcc, hfr, hoki, hH⟩ := Kd.S_elem HS.out ⟨[], 0⟩ (i : Int) (by omega) (by omega)
      have hget : rs.getD (i : Int).toNat ⟨[], 0⟩ = rows[i] := by
        rw [Int.toNat_natCast, List.getD_eq_getElem?_getD, HX.out.2.2.2.1 i (Nat.le_refl i), List.getElem?_eq_getElem ci]; rfl
      rw [hget] at hM
      obtain ⟨v, rfl, hRv⟩ := k98_openM hM
      obtain ⟨A2, c2, rfl⟩ := Kd.R_slice hRv
      have hcell := hcc 0 _ rfl
      have ez : (i : Int).toNat * k98.sz + 0 = i * 2 := by show (i : Int).toNat * 2 + 0 = i * 2; omega
      rw [ez] at hcell
      obtain ⟨r, hrr⟩ : ∃ r, r = rows[i] := ⟨_, rfl⟩
      have htn := tG_next rows i ci
      rw [← hrr] at hRv hcell htn hH
      have HTN := A0_ htn
      have HMJ := A0_ (show (marksG a rows)[i]? = some ⟨ints (a + tG (rows.take i)) r.f0.length, a + tG (rows.take i) + (r.f0.length : Int)⟩ by rw [hrr]; exact marksG_at rows a i ci)
      have hrlen : r.f0.length ≤ 1048576 := hrr ▸ HR.out _ (List.getElem_mem ci)
      have htl := tG_le rows i
      have htl2 := tG_le rows (i + 1)
      obtain ⟨km, hkm⟩ := (markInt64S_ev r.f0 (a + tG (rows.take i)) hrlen (by have := HA.out; omega) (by have := HA.out; omega)).rounds
      have HWK := A0_ (show wrap64 (a + tG (rows.take i) + (r.f0.length : Int) + 1) = a + tG (rows.take (i + 1)) by have := HA.out; unfold wrap64; omega)
      have HKM := A0_ hkm
      have HRV := A0_ hRv
      have HWI := A0_ (wrap_succ i (by have := HL.out; omega))
      have HH := A0_ hH
      have HOK := A0_ hoki
      have HC := A0_ ci
      have HGB := A0_ hgb
      have HRL := A0_ hrl
      have HSO := A0_ (show fp g ∨ w.heap.size ≤ g from (Kd.S_R HS.out).1 g rfl)
      have p0 : ((i : Int) < (rows.length : Int)) = True := eq_true (by omega)
      have p1 : (0 ≤ (i : Int)) = True := eq_true (by omega)
      clear hkm hRv hH hoki hcl hcc hfr hget hrr htn htl htl2 hrlen ci hM ez hgb hgl hrl
      go_wp2_with (first
        | (go_at_call 35; go_loud (refine (laws_markInt64S.calls km oki _ r.f0 (a + tG (rows.take i)) _ _ w0 _ HB.out HRV.out HKM.out).mono ?_; rintro e w1 ⟨rfl, ho, hb, hk⟩; have hw_ := Kd.H_widen HH.out; have hk2_ := Kd.H_kept hw_ hk (fun k _ hn hs => hn (.inl hs)); have hs_ := Kd.H_back hk2_ (x' := (⟨ints (a + tG (rows.take i)) r.f0.length, r.f1⟩ : Ig)) (k98_mkM _ _ _ _ (Kd.R_mono (ok' := fun k => oki k ∨ (fp k ∨ w.heap.size ≤ k) ∧ wr.heap.size ≤ k) ho (fun k hk => hk.elim .inl (fun h => .inr ⟨.inr (Nat.le_trans HK.out.1 h), h⟩)))) (fun _ h => h); rw [Int.toNat_natCast] at hs_; have HS1 := A0_ hs_; have HB1 := A0_ hb; have HK1 := A0_ (Kept.then_ HK.out hk (fun k hk => (HOK.out k hk).1)); clear hs_ hk2_ hw_ ho hb hk hcell; obtain ⟨oki2, cc2, hcl2, hM2, hcc2, hfr2, hoki2, hH2⟩ := Kd.S_elem HS1.out ⟨[], 0⟩ (i : Int) (by omega) (by have := HC.out; omega); rw [Int.toNat_natCast, List.getD_eq_getElem?_getD, List.getElem?_set_self (by rw [HRL.out]; exact HC.out)] at hM2; obtain ⟨v2, rfl, hRv2⟩ := k98_openM hM2; have hcell1 := hcc2 1 _ rfl; have hfro1 := hfr2 1; rw [show (i : Int).toNat * k98.sz + 1 = i * 2 + 1 from by show (i : Int).toNat * 2 + 1 = i * 2 + 1; omega] at hcell1 hfro1; have HP := A0_ (Kd.S_seg0 hH2 (by omega) (by have := HC.out; omega) (seg := [.int .i64 (a + tG (rows.take i) + (r.f0.length : Int))]) (j := 1) (show 2 ≤ 2 from by decide) (x' := (⟨ints (a + tG (rows.take i)) r.f0.length, a + tG (rows.take i) + (r.f0.length : Int)⟩ : Ig)) (k98_mkM _ _ _ _ hRv2) (fun _ h => h)); clear hcl2 hM2 hcc2 hfr2 hoki2 hH2 hRv2))
        | ((with_reducible refine gate_store (t := 2) (p := 23) rfl ?_); refine store_event (t := 2) (p := 23) (v := ?vo) (w1 := (w1.setCell ⟨g, i * 2 + 1, none⟩ (.int .i64 (a + tG (rows.take i) + (r.f0.length : Int))))) ?hg ?ho ?hn ?hr ?_; (case ho => rfl); (case hg => rfl); (case hn => rfl); (case hr => first | (go_simp; done) | (go_simp; rfl)); intro w2 hw; have hg_ : w1.grownBy w2 (some g) := (by rw [hw]; exact HP.out.2); have HS2 := A0_ (show Kd.S k98 98 w2 w0.heap.size (fun k => fp k ∨ w.heap.size ≤ k) (.slice (some ⟨g, 0, none⟩) rows.length c) _ from (by rw [hw]; exact HP.out.1)); have HB2 := A0_ (show Below w0.heap.size w0 w2 from (by rw [hw]; exact below_set HB1.out HGB.out)); have HK2 := A0_ (Kept.of_grown hg_ HK1.out (fun k e_ => by injection e_ with e_; rw [← e_]; exact HSO.out)); clear hg_ hw hcell1 hfro1 HP))
      go_roundg k1
      case measure => omega
      case rel =>
        rw [HWI.out]
        have hs2 := HS2.out
        rw [Int.toNat_natCast, List.set_set] at hs2
        refine ⟨i + 1, rs.set i ⟨ints (a + tG (rows.take i)) r.f0.length, a + tG (rows.take i) + (r.f0.length : Int)⟩, rfl, by rw [HWK.out], ⟨by have := HC.out; omega, by have := HX.out; omega, by rw [List.length_set]; exact HX.out.2.2.1, fun j hj => by rw [List.getElem?_set_ne (by omega)]; exact HX.out.2.2.2.1 j (by omega), fun j hj => by
          by_cases e : j = i
          · subst e; rw [List.getElem?_set_self (by rw [HX.out.2.2.1]; exact HC.out), HMJ.out]
          · rw [List.getElem?_set_ne (Ne.symm e)]; exact HX.out.2.2.2.2 j (by omega)⟩, ⟨hs2⟩, HB2, HK2⟩
    · have ci0 : decide (i < rows.length) = false := decide_eq_false ci
      have hi : i = rows.length := by have := HX.out; omega
      have HI := A0_ hi
      clear ci hi
      go_wp2
      go_ret
      have e : rs = marksG a rows := List.ext_getElem? (fun j => by
        by_cases c : j < rows.length
        · exact HX.out.2.2.2.2 j (by rw [HI.out]; exact c)
        · rw [List.getElem?_eq_none (by rw [HX.out.2.2.1]; omega), List.getElem?_eq_none (by rw [marksG_len]; omega)])
      exact ⟨by rw [HI.out, List.take_length]; rfl, e ▸ HS.out, HB.out, HK.out⟩
end Go.Proofs.Ytlbckkagjekhnaa.A

/- The law FnExactAreCorrect, walked as one straight line. -/
namespace Go.Proofs.Ytlbckkagjekhnaa.A
open Go.RowKit Go.Proofs.YtlbckkagjekhnaaW.PrintWords Go.Proofs.YtlbckkagjekhnaaW.PrintLast Go.Proofs.YtlbckkagjekhnaaW.PrintMore
set_option linter.unusedVariables false
set_option linter.unusedSimpArgs false
def lawAc.T14 : Bool × List (List Nat × List Nat) := (true, [([], []), ([], []), ([1], [1]), ([0, 2, 2], [0, 2]), ([3], [3])])
def lawAc.B14 : List Nat := [0, 0, 2, 7, 15]
theorem lawAc.tab14 : rtab .any (opsOf Try.f6 14) = lawAc.T14 := by kernel_rfl
theorem lawAc.bits14 : waitsOk lawAc.T14.2 lawAc.B14 = true := by kernel_rfl
/-- Stages whose numbers are of a machine's size. -/
def LgOk (ls : List Lg) : Prop := ls.length ≤ maxLen ∧ ∀ s ∈ ls, s.f0.length ≤ maxLen ∧ (∀ m ∈ s.f0, m ≤ 9223372036854775807) ∧ -9223372036854775808 ≤ s.f1 ∧ s.f1 ≤ 9223372036854775807
theorem sgOk_of {ls : List Lg} (h : LgOk ls) (hz : SzOk (ls.map (·.f0))) : SgOk (ls.map toSg) := by
  refine ⟨by rw [List.length_map]; have := hz.len; rwa [List.length_map] at this, fun st hs => ?_, fun st hs => ?_⟩
  · obtain ⟨q, hq, rfl⟩ := List.mem_map.1 hs
    exact ⟨hz.each _ (List.mem_map.2 ⟨q, hq, rfl⟩), (h.2 q hq).2.1⟩
  · obtain ⟨q, hq, rfl⟩ := List.mem_map.1 hs
    exact (h.2 q hq).2.2
theorem szL_le {α : Type} {rows : List (List α)} (h : ¬ szL rows 1048576 < 0) : szL rows 1048576 ≤ 1048576 := by
  obtain ⟨h1, _⟩ := szL_eq rows 1048576 (by omega) h
  have := tot2_nn rows
  omega
end Go.Proofs.Ytlbckkagjekhnaa.A

/- The law FnExactStageOrder, walked as one straight line. -/
namespace Go.Proofs.Ytlbckkagjekhnaa.A
open Go.RowKit Go.Proofs.YtlbckkagjekhnaaW.PrintWords Go.Proofs.YtlbckkagjekhnaaW.PrintLast Go.Proofs.YtlbckkagjekhnaaW.PrintMore
set_option linter.unusedVariables false
set_option linter.unusedSimpArgs false
theorem stepG_out {a b : GSt} {st : Sg} (hs : stepG a st = some b) : b.2.1.length = a.2.1.length + 1 := by
  unfold stepG at hs
  by_cases c : asmP a.2.2 = true
  · rw [if_pos c] at hs
    cases hf : followF a.2.2 st.f0 with
    | none => rw [hf] at hs; cases hs
    | some o =>
      rw [hf, Option.bind_some] at hs
      split at hs
      · obtain rfl := Option.some.inj hs
        simp
      · cases hs
  · rw [if_neg c] at hs; cases hs
theorem fold_out : ∀ (l : List Sg) (a : Option GSt) (n : Nat), (∀ x, a = some x → x.2.1.length = n) → ∀ y, l.foldl (fun a st => a.bind fun x => stepG x st) a = some y → y.2.1.length = n + l.length
  | [], a, n, ha, y, h => ha y h
  | st :: l, a, n, ha, y, h => by
    rw [List.foldl_cons] at h
    have := fold_out l _ (n + 1) (fun x hx => by
      cases a with
      | none => cases hx
      | some q => rw [stepG_out hx, ha q rfl]) y h
    rw [this, List.length_cons]
    omega
theorem soR_len (parts : List (List Cb)) (l : List Sg) : (soR parts l).1.length ≤ l.length := by
  unfold soR
  split
  · split
    · unfold orderR
      split
      · unfold orderM
        cases h : stagesF parts l with
        | none => simp
        | some x =>
          have := fold_out l (some (namesP parts.length, [], parts)) 0 (fun x hx => by obtain rfl := Option.some.inj hx; rfl) x h
          simp only
          omega
      · simp
    · simp
  · simp
def lawSo.T14 : Bool × List (List Nat × List Nat) := (true, [([], []), ([], []), ([1], [1]), ([0, 2, 2], [0, 2]), ([3], [3])])
def lawSo.B14 : List Nat := [0, 0, 2, 7, 15]
theorem lawSo.tab14 : rtab .any (opsOf Try.f8 14) = lawSo.T14 := by kernel_rfl
theorem lawSo.bits14 : waitsOk lawSo.T14.2 lawSo.B14 = true := by kernel_rfl
set_option maxHeartbeats 8000000 in
set_option maxRecDepth 100000 in
theorem lawSo_good (A0 : Option Addr) (c0 : Nat) (l : List (List Lb)) (B0 : Option Addr) (d0 : Nat) (lo : List Lg) (w : World) (hr : Kd.C (Kd.slice 71 k71) w A0 l.length l) (hc : l.length ≤ c0) (hro : Kd.C k95 w B0 lo.length lo) (hco : lo.length ≤ d0) (KK : Nat) (s s2 : Int) (hsz : laws_szAssembly.f KK l 1048576 = some s) (hpos : ¬ s < 0) (hsc : laws_szStageS.f KK lo s = some s2) (hpos2 : ¬ s2 < 0) (P : List (List Cb)) (hz : SzOk P) (hto : laws_toAssembly.f KK l = some P) (heq : laws_eqAssembly.f KK P P = some true)
    (O : List Ig) (hog : SgOk O) (htc : laws_toStageS.f KK lo = some O) (hec : laws_eqStageS.f KK O O = some true) (X : List Int) (cd : Int) (hX : soR P O = (X, cd)) (hxl : X.length ≤ 1048576) (hei : laws_eqInt64S.f KK X X = some true) (hmk : laws_markInt64S.f KK X 1 = some (1 + (X.length : Int), ints 1 X.length)) (hhd : laws_heldInt64S.f KK (ints 1 X.length) 1 = some (1 + (X.length : Int))) (hzo : SzOk (O.map (·.f0))) :
    Calls Try.prog 8 #[.agg #[.slice A0 l.length c0], .slice B0 lo.length d0] w fun e w' => e = .returned (.bool true) ∧ Below w.heap.size w w' := by
  have hu24 := Try.underlying24
  have hu32 := Try.underlying32
  have HR := A0_ hr
  have HC := A0_ hc
  have HRO := A0_ hro
  have HCO := A0_ hco
  have HSZ := A0_ hsz
  have HSC := A0_ hsc
  have HTO1 := A0_ hto
  have HTO2 := A0_ hto
  have HTO3 := A0_ hto
  have HTO4 := A0_ hto
  have HTC1 := A0_ htc
  have HTC2 := A0_ htc
  have HTC3 := A0_ htc
  have HTC4 := A0_ htc
  have HEQ := A0_ heq
  have HEC := A0_ hec
  have HEI1 := A0_ hei
  have HEI2 := A0_ hei
  have HEI3 := A0_ hei
  have HMK := A0_ hmk
  have HHD1 := A0_ hhd
  have HHD2 := A0_ hhd
  have HZ := A0_ hz
  have HZO := A0_ hzo
  have HOL := A0_ (show O.length ≤ 1048576 by have := hzo.len; rwa [List.length_map] at this)
  have hp0 : decide (s < 0) = false := decide_eq_false hpos
  have hp1 : decide (s2 < 0) = false := decide_eq_false hpos2
  have ht := t3_le P P.length
  rw [List.take_length] at ht
  have hgt : 0 ≤ tG O ∧ tG O ≤ 3000000 := ⟨tG_nn O, by rw [tG_eq]; have := hzo.tot; have := HOL.out; omega⟩
  have hp2 : decide (1 + t3 P + tG O < 0) = false := decide_eq_false (by omega)
  have hp3 : decide (1 + (X.length : Int) < 0) = false := decide_eq_false (by omega)
  have HT3 := A0_ (show 1 + t3 P ≤ 1000000000000 by have := hz.tot; unfold t3; omega)
  have HTG := A0_ (show 0 ≤ 1 + t3 P ∧ 1 + t3 P + tG O ≤ 1000000000000 by have := hz.tot; unfold t3; have := tot2_nn P; omega)
  have HS := A0_ (Sp.start w)
  have HSP := A0_ (fun A c B d w1 h1 h2 h3 h4 => sOrd_calls A c P B d O w1 h1 h2 hz h3 h4 hog)
  have HIM1 := A0_ (fun A c B d w1 h1 h2 h3 h4 => iOrd_calls A c P B d O w1 h1 h2 hz h3 h4 hog)
  rw [hX] at HSP HIM1
  have HIM2 := HIM1
  clear hr hc hro hco hsz hsc hto htc heq hec hz hog hX hpos hpos2 hei hmk hhd hzo ht hgt hxl
  go_enter Try.func8, Try.ntmps8
  go_wp2_with (first
    | ((with_reducible refine gate_dst (N := 2) rfl ?_); go_loud (refine box_event ?hg (N := 2) ?hd (cs := #[.slice A0 l.length c0]) (t := 24) ?hr ?_; (case hd => rfl); (case hg => rfl); (case hr => first | (go_simp; done) | (go_simp; rfl)); intro gb hgb_ wb_ hcb_ hbb_; have HS_ := A0_ (Sp.boxed HS.out hgb_ hcb_ hbb_); clear HS; have HS := HS_; clear HS_; clear hgb_ hcb_ hbb_; have hb0 := (blk_cell (Sp.blk HS.out (i := 0) rfl).1 0).trans rfl))
    | (go_at_call 10; go_loud (refine (laws_szAssembly.calls KK A0 c0 l 1048576 s _ (Kd.C_below HR.out HS.out.below) HC.out HSZ.out).mono ?_; rintro e wc_ ⟨rfl, hb_⟩; have HS_ := A0_ (Sp.far HS.out hb_); clear HS; have HS := HS_; clear HS_; clear hb_ hb0 HSZ; have hb0 := (blk_cell (Sp.blk HS.out (i := 0) rfl).1 0).trans rfl))
    | (go_at_call 27; go_loud (refine (laws_szStageS.calls KK B0 d0 lo s s2 _ (Kd.C_below HRO.out HS.out.below) HCO.out HSC.out).mono ?_; rintro e wc_ ⟨rfl, hb_⟩; have HS_ := A0_ (Sp.far HS.out hb_); clear HS; have HS := HS_; clear HS_; clear hb_ hb0 HSC; have hb0 := (blk_cell (Sp.blk HS.out (i := 0) rfl).1 0).trans rfl))
    | (go_at_call 13; go_loud (refine (laws_toAssembly.calls KK A0 c0 l P _ (Kd.C_below HR.out HS.out.below) HC.out HTO1.out).mono ?_; rintro e wc_ ⟨v_, rfl, hs_, hb_⟩; have HS_ := A0_ (Sp.madeS HS.out hb_ hs_); clear HS; have HS := HS_; clear HS_; clear hb_ hs_ hb0 HTO1; obtain ⟨A1, c1, ev_⟩ := Sp.sliceS HS.out (i := 0) rfl; subst ev_))
    | (go_at_call 29; go_loud (refine (laws_toStageS.calls KK B0 d0 lo O _ (Kd.C_below HRO.out HS.out.below) HCO.out HTC1.out).mono ?_; rintro e wc_ ⟨v_, rfl, hs_, hb_⟩; have HS_ := A0_ (Sp.madeS HS.out hb_ hs_); clear HS; have HS := HS_; clear HS_; clear hb_ hs_ HTC1; obtain ⟨B1, d1, ev_⟩ := Sp.sliceS HS.out (i := 0) rfl; subst ev_))
    | (go_at_call 37; go_loud (refine (HSP.out A1 c1 B1 d1 _ (Sp.readsS HS.out (i := 1) rfl).2.2 (Sp.readsS HS.out (i := 1) rfl).2.1 (Sp.readsS HS.out (i := 0) rfl).2.2 (Sp.readsS HS.out (i := 0) rfl).2.1).mono ?_; rintro e wc_ ⟨v_, rfl, hr_, hb_⟩; have HS_ := A0_ (Sp.made' HS.out hb_ hr_); clear HS; have HS := HS_; clear HS_; clear hb_ hr_ HSP; obtain ⟨A2, c2, ev_⟩ := Sp.slice HS.out (i := 0) rfl; subst ev_; have hb0 := (blk_cell (Sp.blk HS.out (i := 3) rfl).1 0).trans rfl))
    | (go_at_call 13; go_loud (refine (laws_toAssembly.calls KK A0 c0 l P _ (Kd.C_below HR.out HS.out.below) HC.out HTO2.out).mono ?_; rintro e wc_ ⟨v_, rfl, hs_, hb_⟩; have HS_ := A0_ (Sp.madeS HS.out hb_ hs_); clear HS; have HS := HS_; clear HS_; clear hb_ hs_ hb0 HTO2; obtain ⟨A3, c3, ev_⟩ := Sp.sliceS HS.out (i := 0) rfl; subst ev_))
    | (go_at_call 29; go_loud (obtain ⟨gx, hg_⟩ : ∃ g_, g_ = (wc_).heap.size := ⟨_, rfl⟩; obtain ⟨wx, hw_⟩ : ∃ w_, w_ = (wc_).alloc (.cells #[.slice A3 P.length c3] 32) := ⟨_, rfl⟩; (try rw [← hw_]); (try rw [← hg_]); have HS_ := A0_ (Sp.box HS.out #[.slice A3 P.length c3] 32); rw [← hw_, ← hg_] at HS_; clear HS; have HS := HS_; clear HS_ hw_ hg_; refine (laws_toStageS.calls KK B0 d0 lo O _ (Kd.C_below HRO.out HS.out.below) HCO.out HTC2.out).mono ?_; rintro e wo_ ⟨v_, rfl, hs_, hb_⟩; have HS_ := A0_ (Sp.madeS HS.out hb_ hs_); clear HS; have HS := HS_; clear HS_; clear hb_ hs_ HTC2; obtain ⟨B2, d2, ev_⟩ := Sp.sliceS HS.out (i := 0) rfl; subst ev_; have hx0 := (blk_cell (Sp.blk HS.out (i := 1) rfl).1 0).trans rfl))
    | (go_at_call 38; go_loud (refine (HIM1.out A3 c3 B2 d2 _ (Sp.readsS HS.out (i := 2) rfl).2.2 (Sp.readsS HS.out (i := 2) rfl).2.1 (Sp.readsS HS.out (i := 0) rfl).2.2 (Sp.readsS HS.out (i := 0) rfl).2.1).mono ?_; rintro e wc_ ⟨v_, rfl, hr_, hb_⟩; have HS_ := A0_ (Sp.made' HS.out hb_ hr_); clear HS; have HS := HS_; clear HS_; clear hb_ hr_ hx0 HIM1; obtain ⟨A4, c4, ev_⟩ := Sp.slice HS.out (i := 0) rfl; subst ev_))
    | (go_at_call 34; go_loud (refine (laws_eqInt64S.calls KK A4 c4 X A2 c2 X true _ (Sp.reads HS.out (i := 0) rfl).2.2 (Sp.reads HS.out (i := 0) rfl).2.1 (Sp.reads HS.out (i := 4) rfl).2.2 (Sp.reads HS.out (i := 4) rfl).2.1 HEI1.out).mono ?_; rintro e wc_ ⟨rfl, hd_⟩; have HS_ := A0_ (Sp.far HS.out hd_.below); clear HS; have HS := HS_; clear HS_; clear hd_ HEI1)))
  have HS_ := A0_ (show Sp w ([Res.row kI 2 w.heap.size (.slice A4 X.length c4) X, Res.rowS k98 98 w.heap.size (.slice B2 O.length d2) O, Res.blk gx #[.slice A3 P.length c3] 32, Res.rowS kP 34 w.heap.size (.slice A3 P.length c3) P, Res.row kI 2 w.heap.size (.slice A2 X.length c2) X, Res.rowS k98 98 w.heap.size (.slice B1 O.length d1) O, Res.rowS kP 34 w.heap.size (.slice A1 P.length c1) P, Res.blk gb #[.slice A0 l.length c0] 24] ++ ([] : List Res)) wc_.drew from Sp.drew HS.out)
  clear HS
  have HS := HS_
  clear HS_
  refine start_ (n := 5) (S := fun w' => w'.cell? ⟨gx, 0, none⟩ = some (.slice A3 P.length c3) ∧ w'.cell? ⟨gb, 0, none⟩ = some (.slice A0 l.length c0)) (ds := []) #[false, false, false, false, false] (by kernel_rfl) rfl rfl (⟨(blk_cell (Sp.blk HS.out (i := 2) rfl).1 0).trans rfl, (blk_cell (Sp.blk HS.out (i := 7) rfl).1 0).trans rfl⟩) (fun hHeld => ?_)
  refine with_tabW lawSo.tab14 lawSo.bits14 (fun HT_ HW_ => ?_)
  generalize wc_.drew = wD at HS hHeld ⊢
  refine tk_ 0 (some 54) ?_
  refine tk_ 1 (some 55) ?_
  refine o1_ 2 (some 56) (fun K hK => ?_)
  refine goes_ Try.func13 (by kernel_rfl) rfl #[.agg #[.slice A0 l.length c0]] (by rfl) rfl rfl (by (try simp only [List.map_toArray, List.map_cons, List.map_nil]); first | done | rfl | (simp only [List.length_drop, List.length_take]; rfl)) ?_
  refine (laws_toAssembly.calls KK A0 c0 l P _ (Kd.C_below HR.out HS.out.below) HC.out HTO3.out).mono ?_
  rintro e w7 ⟨v7, rfl, hs_, hb_⟩
  refine ⟨_, rfl, ?_⟩
  have HS_ := A0_ (Sp.madeS HS.out hb_ hs_)
  clear HS
  have HS := HS_
  clear HS_
  clear hb_ hs_
  obtain ⟨A7, c7, ev_⟩ := Sp.sliceS HS.out (i := 0) rfl
  subst ev_
  refine hK.out _ _ (⟨(blk_cell (Sp.blk HS.out (i := 3) rfl).1 0).trans rfl, (blk_cell (Sp.blk HS.out (i := 8) rfl).1 0).trans rfl⟩) (fun hHeld => ?_)
  clear hK K
  refine nm_ (some 56) ?_
  refine o1_ 3 (some 57) (fun K hK => ?_)
  refine goes_ Try.func17 (by kernel_rfl) rfl #[.agg #[.slice A3 P.length c3], .agg #[.slice A7 P.length c7]] (by rfl) rfl rfl (by (try simp only [List.map_toArray, List.map_cons, List.map_nil]); first | done | rfl | (simp only [List.length_drop, List.length_take]; rfl)) ?_
  refine (laws_eqAssembly.calls KK A3 c3 P A7 c7 P true _ (Sp.readsS HS.out (i := 4) rfl).2.2 (Sp.readsS HS.out (i := 4) rfl).2.1 (Sp.readsS HS.out (i := 0) rfl).2.2 (Sp.readsS HS.out (i := 0) rfl).2.1 HEQ.out).mono ?_
  rintro e w8 ⟨rfl, hb_⟩
  refine ⟨_, rfl, ?_⟩
  have HS_ := A0_ (Sp.far HS.out hb_)
  clear HS
  have HS := HS_
  clear HS_
  clear hb_
  refine hK.out _ _ (⟨(blk_cell (Sp.blk HS.out (i := 3) rfl).1 0).trans rfl, (blk_cell (Sp.blk HS.out (i := 8) rfl).1 0).trans rfl⟩) (fun hHeld => ?_)
  clear hK K
  refine nm_ (some 57) ?_
  refine on_ 4 (some 58) ?_
  refine dn_ ?_
  have HS_ := A0_ (Sp.arr (pre := [Res.rowS kP 34 w.heap.size (.slice A7 P.length c7) P, Res.row kI 2 w.heap.size (.slice A4 X.length c4) X, Res.rowS k98 98 w.heap.size (.slice B2 O.length d2) O, Res.blk gx #[.slice A3 P.length c3] 32, Res.rowS kP 34 w.heap.size (.slice A3 P.length c3) P, Res.row kI 2 w.heap.size (.slice A2 X.length c2) X, Res.rowS k98 98 w.heap.size (.slice B1 O.length d1) O, Res.rowS kP 34 w.heap.size (.slice A1 P.length c1) P, Res.blk gb #[.slice A0 l.length c0] 24]) (pre' := [Res.row kI 2 w.heap.size (.slice A4 X.length c4) X, Res.rowS kP 34 w.heap.size (.slice A3 P.length c3) P, Res.rowS k98 98 w.heap.size (.slice B2 O.length d2) O, Res.row kI 2 w.heap.size (.slice A2 X.length c2) X, Res.blk gb #[.slice A0 l.length c0] 24, Res.blk gx #[.slice A3 P.length c3] 32, Res.rowS k98 98 w.heap.size (.slice B1 O.length d1) O, Res.rowS kP 34 w.heap.size (.slice A1 P.length c1) P, Res.rowS kP 34 w.heap.size (.slice A7 P.length c7) P]) (rest := ([] : List Res)) [1, 4, 2, 5, 8, 3, 6, 7, 0] HS.out rfl rfl)
  clear HS
  have HS := HS_
  clear HS_
  have hx0 := (blk_cell (Sp.blk HS.out (i := 5) rfl).1 0).trans rfl
  go_wp2_with (first
    | (go_at_call 29; go_loud (refine (laws_toStageS.calls KK B0 d0 lo O _ (Kd.C_below HRO.out HS.out.below) HCO.out HTC3.out).mono ?_; rintro e wc_ ⟨v_, rfl, hs_, hb_⟩; have HS_ := A0_ (Sp.madeS HS.out hb_ hs_); clear HS; have HS := HS_; clear HS_; clear hb_ hs_ hx0 HTC3; obtain ⟨B3, d3, ev_⟩ := Sp.sliceS HS.out (i := 0) rfl; subst ev_))
    | (go_at_call 31; go_loud (refine (laws_eqStageS.calls KK B2 d2 O B3 d3 O true _ (Sp.readsS HS.out (i := 3) rfl).2.2 (Sp.readsS HS.out (i := 3) rfl).2.1 (Sp.readsS HS.out (i := 0) rfl).2.2 (Sp.readsS HS.out (i := 0) rfl).2.1 HEC.out).mono ?_; rintro e wc_ ⟨rfl, hd_⟩; have HS_ := A0_ (Sp.far HS.out hd_); clear HS; have HS := HS_; clear HS_; clear hd_ HEC; have hx0 := (blk_cell (Sp.blk HS.out (i := 6) rfl).1 0).trans rfl))
    | (go_at_call 19; go_loud (obtain ⟨fp_, hs_, hc_⟩ := Sp.markS HS.out (i := 2) rfl; refine (laws_markAssembly.calls2 P fp_ A3 P.length c3 1 w _ HS.out.below hs_ (by decide) HT3.out HZ.out.len HZ.out.each).mono ?_; rintro e w9 ⟨rfl, rows', hs2, hb, hk⟩; have HS_ := A0_ (hc_ _ _ hs2 hb hk); clear HS; have HS := HS_; clear HS_; clear hs_ hc_ hs2 hb hk hx0))
    | (go_at_call 39; go_loud (obtain ⟨fp_, hs_, hc_⟩ := Sp.markS HS.out (i := 3) rfl; refine (laws_markStageS.calls2 O fp_ _ (1 + t3 P) w _ HS.out.below hs_ HTG.out.1 HTG.out.2 HOL.out (fun r hr => HZO.out.each _ (List.mem_map.2 ⟨r, hr, rfl⟩))).mono ?_; rintro e w11 ⟨rfl, hs2, hb, hk⟩; have HS_ := A0_ (hc_ _ _ hs2 hb hk); clear HS; have HS := HS_; clear HS_; clear hs_ hc_ hs2 hb hk))
    | (go_at_call 34; go_loud (refine (laws_eqInt64S.calls KK A4 c4 X A2 c2 X true _ (Sp.reads HS.out (i := 1) rfl).2.2 (Sp.reads HS.out (i := 1) rfl).2.1 (Sp.reads HS.out (i := 4) rfl).2.2 (Sp.reads HS.out (i := 4) rfl).2.1 HEI2.out).mono ?_; rintro e wc_ ⟨rfl, hd_⟩; have HS_ := A0_ (Sp.far HS.out hd_.below); clear HS; have HS := HS_; clear HS_; clear hd_ HEI2))
    | (go_at_call 35; go_loud (obtain ⟨fp_, hr_, hc_⟩ := Sp.markR HS.out (i := 1) rfl; refine (laws_markInt64S.calls KK fp_ _ X 1 (1 + (X.length : Int)) (ints 1 X.length) w _ HS.out.below hr_ HMK.out).mono ?_; rintro e w12 ⟨rfl, ho, hb, hk⟩; have HS_ := A0_ (hc_ _ _ ho hb hk); clear HS; have HS := HS_; clear HS_; clear hr_ hc_ ho hb hk))
    | (go_at_call 36; go_loud (have hh_ := laws_heldInt64S.calls KK A4 c4 (ints 1 X.length) 1 (1 + (X.length : Int)) _ (Sp.reads HS.out (i := 1) rfl).2.2 (by rw [ints_len]; exact (Sp.reads HS.out (i := 1) rfl).2.1) HHD1.out; rw [ints_len] at hh_; refine hh_.mono ?_; rintro e w13 ⟨rfl, hd_⟩; have HS_ := A0_ (Sp.far HS.out hd_.below); clear HS; have HS := HS_; clear HS_; clear hd_ hh_ HHD1; have hb0 := (blk_cell (Sp.blk HS.out (i := 5) rfl).1 0).trans rfl))
    | (go_at_call 13; go_loud (refine (laws_toAssembly.calls KK A0 c0 l P _ (Kd.C_below HR.out HS.out.below) HC.out HTO4.out).mono ?_; rintro e wc_ ⟨v_, rfl, hs_, hb_⟩; have HS_ := A0_ (Sp.madeS HS.out hb_ hs_); clear HS; have HS := HS_; clear HS_; clear hb_ hs_ hb0 HTO4; obtain ⟨A13, c13, ev_⟩ := Sp.sliceS HS.out (i := 0) rfl; subst ev_))
    | (go_at_call 29; go_loud (refine (laws_toStageS.calls KK B0 d0 lo O _ (Kd.C_below HRO.out HS.out.below) HCO.out HTC4.out).mono ?_; rintro e wc_ ⟨v_, rfl, hs_, hb_⟩; have HS_ := A0_ (Sp.madeS HS.out hb_ hs_); clear HS; have HS := HS_; clear HS_; clear hb_ hs_ HTC4; obtain ⟨B4, d4, ev_⟩ := Sp.sliceS HS.out (i := 0) rfl; subst ev_))
    | (go_at_call 38; go_loud (refine (HIM2.out A13 c13 B4 d4 _ (Sp.readsS HS.out (i := 1) rfl).2.2 (Sp.readsS HS.out (i := 1) rfl).2.1 (Sp.readsS HS.out (i := 0) rfl).2.2 (Sp.readsS HS.out (i := 0) rfl).2.1).mono ?_; rintro e wc_ ⟨v_, rfl, hr_, hb_⟩; have HS_ := A0_ (Sp.made' HS.out hb_ hr_); clear HS; have HS := HS_; clear HS_; clear hb_ hr_ HIM2; obtain ⟨A14, c14, ev_⟩ := Sp.slice HS.out (i := 0) rfl; subst ev_))
    | (go_at_call 34; go_loud (refine (laws_eqInt64S.calls KK A14 c14 X A2 c2 X true _ (Sp.reads HS.out (i := 0) rfl).2.2 (Sp.reads HS.out (i := 0) rfl).2.1 (Sp.reads HS.out (i := 7) rfl).2.2 (Sp.reads HS.out (i := 7) rfl).2.1 HEI3.out).mono ?_; rintro e wc_ ⟨rfl, hd_⟩; have HS_ := A0_ (Sp.far HS.out hd_.below); clear HS; have HS := HS_; clear HS_; clear hd_ HEI3))
    | (go_at_call 36; go_loud (have hh_ := laws_heldInt64S.calls KK A4 c4 (ints 1 X.length) 1 (1 + (X.length : Int)) _ (Sp.reads HS.out (i := 4) rfl).2.2 (by rw [ints_len]; exact (Sp.reads HS.out (i := 4) rfl).2.1) HHD2.out; rw [ints_len] at hh_; refine hh_.mono ?_; rintro e w16 ⟨rfl, hd_⟩; have HS_ := A0_ (Sp.far HS.out hd_.below); clear HS; have HS := HS_; clear HS_; clear hd_ hh_ HHD2)))
  go_ret
  exact ⟨rfl, HS.out.below⟩
set_option maxHeartbeats 1000000 in
set_option maxRecDepth 100000 in
theorem lawSo_bad (A0 : Option Addr) (c0 : Nat) (l : List (List Lb)) (B0 : Option Addr) (d0 : Nat) (lo : List Lg) (w : World) (hr : Kd.C (Kd.slice 71 k71) w A0 l.length l) (hc : l.length ≤ c0) (KK : Nat) (hsz : laws_szAssembly.f KK l 1048576 = some (-1)) :
    Calls Try.prog 8 #[.agg #[.slice A0 l.length c0], .slice B0 lo.length d0] w fun e w' => e = .returned (.bool true) ∧ Below w.heap.size w w' := by
  have hu24 := Try.underlying24
  have HR := A0_ hr
  have HC := A0_ hc
  have HSZ := A0_ hsz
  have HS := A0_ (Sp.start w)
  clear hr hc hsz
  go_enter Try.func8, Try.ntmps8
  go_wp2_with (first
    | ((with_reducible refine gate_dst (N := 2) rfl ?_); go_loud (refine box_event ?hg (N := 2) ?hd (cs := #[.slice A0 l.length c0]) (t := 24) ?hr ?_; (case hd => rfl); (case hg => rfl); (case hr => first | (go_simp; done) | (go_simp; rfl)); intro gb hgb_ wb_ hcb_ hbb_; have HS_ := A0_ (Sp.boxed HS.out hgb_ hcb_ hbb_); clear HS; have HS := HS_; clear HS_; clear hgb_ hcb_ hbb_; have hb0 := (blk_cell (Sp.blk HS.out (i := 0) rfl).1 0).trans rfl))
    | (go_at_call 10; go_loud (refine (laws_szAssembly.calls KK A0 c0 l 1048576 (-1) _ (Kd.C_below HR.out HS.out.below) HC.out HSZ.out).mono ?_; rintro e wc_ ⟨rfl, hb_⟩; have HS_ := A0_ (Sp.far HS.out hb_); clear HS; have HS := HS_; clear HS_; clear hb_ hb0 HSZ)))
  go_ret
  exact ⟨rfl, HS.out.below⟩
set_option maxHeartbeats 1000000 in
set_option maxRecDepth 100000 in
theorem lawSo_bad2 (A0 : Option Addr) (c0 : Nat) (l : List (List Lb)) (B0 : Option Addr) (d0 : Nat) (lo : List Lg) (w : World) (hr : Kd.C (Kd.slice 71 k71) w A0 l.length l) (hc : l.length ≤ c0) (hro : Kd.C k95 w B0 lo.length lo) (hco : lo.length ≤ d0) (KK : Nat) (s : Int) (hsz : laws_szAssembly.f KK l 1048576 = some s) (hpos : ¬ s < 0) (s2 : Int) (hsc : laws_szStageS.f KK lo s = some s2) (hneg : s2 < 0) :
    Calls Try.prog 8 #[.agg #[.slice A0 l.length c0], .slice B0 lo.length d0] w fun e w' => e = .returned (.bool true) ∧ Below w.heap.size w w' := by
  have hu24 := Try.underlying24
  have HR := A0_ hr
  have HC := A0_ hc
  have HRO := A0_ hro
  have HCO := A0_ hco
  have HSZ := A0_ hsz
  have HSC := A0_ hsc
  have HS := A0_ (Sp.start w)
  have hp0 : decide (s < 0) = false := decide_eq_false hpos
  have hp1 : decide (s2 < 0) = true := decide_eq_true hneg
  clear hr hc hsz hro hco hsc hpos hneg
  go_enter Try.func8, Try.ntmps8
  go_wp2_with (first
    | ((with_reducible refine gate_dst (N := 2) rfl ?_); go_loud (refine box_event ?hg (N := 2) ?hd (cs := #[.slice A0 l.length c0]) (t := 24) ?hr ?_; (case hd => rfl); (case hg => rfl); (case hr => first | (go_simp; done) | (go_simp; rfl)); intro gb hgb_ wb_ hcb_ hbb_; have HS_ := A0_ (Sp.boxed HS.out hgb_ hcb_ hbb_); clear HS; have HS := HS_; clear HS_; clear hgb_ hcb_ hbb_; have hb0 := (blk_cell (Sp.blk HS.out (i := 0) rfl).1 0).trans rfl))
    | (go_at_call 10; go_loud (refine (laws_szAssembly.calls KK A0 c0 l 1048576 s _ (Kd.C_below HR.out HS.out.below) HC.out HSZ.out).mono ?_; rintro e wc_ ⟨rfl, hb_⟩; have HS_ := A0_ (Sp.far HS.out hb_); clear HS; have HS := HS_; clear HS_; clear hb_ hb0 HSZ))
    | (go_at_call 27; go_loud (refine (laws_szStageS.calls KK B0 d0 lo s s2 _ (Kd.C_below HRO.out HS.out.below) HCO.out HSC.out).mono ?_; rintro e wc_ ⟨rfl, hb_⟩; have HS_ := A0_ (Sp.far HS.out hb_); clear HS; have HS := HS_; clear HS_; clear hb_ HSC)))
  go_ret
  exact ⟨rfl, HS.out.below⟩
open Classical in
/-- What the law answers, where its input is of a size that a machine has. -/
noncomputable def laws_FnExactStageOrder.f (k : Nat) (l : List (List Lb)) (lo : List Lg) : Option Bool := if (l.length ≤ maxLen ∧ ∀ r ∈ l, r.length ≤ maxLen) ∧ LgOk lo then some true else none
theorem laws_FnExactStageOrder.calls (k : Nat) (A0_0 : Option Addr) (c0_0 : Nat) (l0_0 : List (List Lb)) (A1 : Option Addr) (c1 : Nat) (l1 : List Lg) (r : Bool) (w : World) (hr0_0 : Kd.C (Kd.slice 71 k71) w A0_0 l0_0.length l0_0) (hc0_0 : l0_0.length ≤ c0_0) (hr1 : Kd.C k95 w A1 l1.length l1) (hc1 : l1.length ≤ c1) (h : laws_FnExactStageOrder.f k l0_0 l1 = some r) :
    Calls Try.prog 8 #[.agg #[.slice A0_0 l0_0.length c0_0], .slice A1 l1.length c1] w fun e w' => e = .returned (.bool r) ∧ Below w.heap.size w w' := by
  unfold laws_FnExactStageOrder.f at h
  split at h
  case isFalse => cases h
  rename_i hok
  obtain rfl := Option.some.inj h
  obtain ⟨K1, h1⟩ := szAssembly_ev l0_0 1048576 (by omega) hok.1.1 hok.1.2
  by_cases c : szL l0_0 1048576 < 0
  · rw [if_pos c] at h1
    exact lawSo_bad A0_0 c0_0 l0_0 A1 c1 l1 w hr0_0 hc0_0 K1 (h1 K1 (Nat.le_refl _))
  · rw [if_neg c] at h1
    obtain ⟨hsz, hz⟩ := szL_eq l0_0 1048576 (by omega) c
    have hnn := tot2_nn l0_0
    have hqle := szL_le c
    obtain ⟨q, hq⟩ : ∃ q, q = szL l0_0 1048576 := ⟨_, rfl⟩
    rw [← hq] at c h1 hsz hqle
    clear hq
    obtain ⟨K2, h2⟩ := szT_ev l1 q (And.intro (Int.not_lt.1 c) hqle) hok.2.1 (fun r hr => (hok.2.2 r hr).1)
    obtain ⟨rows, hrows⟩ : ∃ rows, rows = l1.map (fun s => s.f0) := ⟨_, rfl⟩
    rw [← hrows] at h2
    by_cases d : szL rows q < 0
    · exact lawSo_bad2 A0_0 c0_0 l0_0 A1 c1 l1 w hr0_0 hc0_0 hr1 hc1 (K1 + K2) _ (h1 _ (by omega)) c _ (h2 _ (by omega)) d
    · obtain ⟨_, hz2⟩ := szL_eq rows q hqle d
      rw [hrows] at hz2
      obtain ⟨K3, h3⟩ := toAssembly_ev l0_0 hz
      obtain ⟨K4, h4⟩ := eqAssembly_ev (toP l0_0) (toP_ok hz)
      obtain ⟨K5, h5⟩ := toStageS_ev l1 hz2
      obtain ⟨K6, h6⟩ := eqStageS_ev (l1.map toSg) (toSg_ok hz2)
      have hsg := sgOk_of hok.2 hz2
      have hso := toSg_ok hz2
      obtain ⟨O, hO⟩ : ∃ O, O = l1.map toSg := ⟨_, rfl⟩
      rw [← hO] at h5 h6 hsg hso
      obtain ⟨X, cd, hX⟩ : ∃ X cd, soR (toP l0_0) O = (X, cd) := ⟨_, _, rfl⟩
      have hxl : X.length ≤ 1048576 := by have h8 := soR_len (toP l0_0) O; rw [hX] at h8; exact Nat.le_trans h8 hsg.len
      obtain ⟨K7, h7⟩ := eqInt64S_ev X hxl
      obtain ⟨K8, h8⟩ := markInt64S_ev X 1 hxl (by decide) (by decide)
      obtain ⟨K9, h9⟩ := heldInts_ev' 1 X.length (by decide) (by omega)
      exact lawSo_good A0_0 c0_0 l0_0 A1 c1 l1 w hr0_0 hc0_0 hr1 hc1 (K1 + K2 + K3 + K4 + K5 + K6 + K7 + K8 + K9) _ _ (h1 _ (by omega)) c (h2 _ (by omega)) d (toP l0_0) (toP_ok hz) (h3 _ (by omega)) (h4 _ (by omega)) O hsg (h5 _ (by omega)) (h6 _ (by omega)) X cd hX hxl (h7 _ (by omega)) (h8 _ (by omega)) (h9 _ (by omega)) hso
end Go.Proofs.Ytlbckkagjekhnaa.A

/- The plain statement of the law FnExactStageOrder, over numbers and lists alone, and how its arguments are opened. -/
namespace Go.Proofs.Ytlbckkagjekhnaa.A
open Go.RowKit Go.Proofs.YtlbckkagjekhnaaW.PrintWords Go.Proofs.YtlbckkagjekhnaaW.PrintLast Go.Proofs.YtlbckkagjekhnaaW.PrintMore
def ok71 (x : S71) : Prop := (Go.Proofs.Ytlbckkagjekhnaa.Opn.okTwo (Go.Proofs.Ytlbckkagjekhnaa.Opn.okInt .i64) (Go.Proofs.Ytlbckkagjekhnaa.Opn.okTwo (Go.Proofs.Ytlbckkagjekhnaa.Opn.okInt .i64) (Go.Proofs.Ytlbckkagjekhnaa.Opn.okInt .i64))) (x.f0, x.f1, x.f2)
def ok24 (x : S24) : Prop := (Go.Proofs.Ytlbckkagjekhnaa.Opn.okAll (Go.Proofs.Ytlbckkagjekhnaa.Opn.okAll ok71)) x.f0
def ok95 (x : S95) : Prop := (Go.Proofs.Ytlbckkagjekhnaa.Opn.okTwo (Go.Proofs.Ytlbckkagjekhnaa.Opn.okAll (Go.Proofs.Ytlbckkagjekhnaa.Opn.okInt .i64)) (Go.Proofs.Ytlbckkagjekhnaa.Opn.okInt .i64)) (x.f0, x.f1)
theorem op2 : Go.Proofs.Ytlbckkagjekhnaa.Opn.Op Try.prog 2 (Kd.int .i64) (Go.Proofs.Ytlbckkagjekhnaa.Opn.okInt .i64) := Go.Proofs.Ytlbckkagjekhnaa.Opn.Op.int Try.underlying2
theorem op71 : Go.Proofs.Ytlbckkagjekhnaa.Opn.Op Try.prog 71 k71 ok71 := Go.Proofs.Ytlbckkagjekhnaa.Opn.Op.iso (Go.Proofs.Ytlbckkagjekhnaa.Opn.Op.struct Try.underlying71 (by kernel_rfl) (Go.Proofs.Ytlbckkagjekhnaa.Opn.OpF.cons rfl (by kernel_rfl) op2 (Go.Proofs.Ytlbckkagjekhnaa.Opn.OpF.cons rfl (by kernel_rfl) op2 (Go.Proofs.Ytlbckkagjekhnaa.Opn.OpF.one rfl (by kernel_rfl) op2)))) (fun x : S71 => (x.f0, x.f1, x.f2)) (fun p => ⟨p.1, p.2.1, p.2.2⟩) (fun _ => rfl)
theorem op25 : Go.Proofs.Ytlbckkagjekhnaa.Opn.Op Try.prog 25 (Kd.slice 71 k71) (Go.Proofs.Ytlbckkagjekhnaa.Opn.okAll ok71) := Go.Proofs.Ytlbckkagjekhnaa.Opn.Op.slice Try.underlying25 (by kernel_rfl) op71
theorem op22 : Go.Proofs.Ytlbckkagjekhnaa.Opn.Op Try.prog 22 (Kd.slice 25 (Kd.slice 71 k71)) (Go.Proofs.Ytlbckkagjekhnaa.Opn.okAll (Go.Proofs.Ytlbckkagjekhnaa.Opn.okAll ok71)) := Go.Proofs.Ytlbckkagjekhnaa.Opn.Op.slice Try.underlying22 (by kernel_rfl) op25
theorem op24 : Go.Proofs.Ytlbckkagjekhnaa.Opn.Op Try.prog 24 k24 ok24 := Go.Proofs.Ytlbckkagjekhnaa.Opn.Op.iso (Go.Proofs.Ytlbckkagjekhnaa.Opn.Op.struct Try.underlying24 (by kernel_rfl) (Go.Proofs.Ytlbckkagjekhnaa.Opn.OpF.one rfl (by kernel_rfl) op22)) (fun x : S24 => x.f0) (fun p => ⟨p⟩) (fun _ => rfl)
theorem op53 : Go.Proofs.Ytlbckkagjekhnaa.Opn.Op Try.prog 53 (Kd.slice 2 (Kd.int .i64)) (Go.Proofs.Ytlbckkagjekhnaa.Opn.okAll (Go.Proofs.Ytlbckkagjekhnaa.Opn.okInt .i64)) := Go.Proofs.Ytlbckkagjekhnaa.Opn.Op.slice Try.underlying53 (by kernel_rfl) op2
theorem op95 : Go.Proofs.Ytlbckkagjekhnaa.Opn.Op Try.prog 95 k95 ok95 := Go.Proofs.Ytlbckkagjekhnaa.Opn.Op.iso (Go.Proofs.Ytlbckkagjekhnaa.Opn.Op.struct Try.underlying95 (by kernel_rfl) (Go.Proofs.Ytlbckkagjekhnaa.Opn.OpF.cons rfl (by kernel_rfl) op53 (Go.Proofs.Ytlbckkagjekhnaa.Opn.OpF.one rfl (by kernel_rfl) op2))) (fun x : S95 => (x.f0, x.f1)) (fun p => ⟨p.1, p.2⟩) (fun _ => rfl)
theorem op46 : Go.Proofs.Ytlbckkagjekhnaa.Opn.Op Try.prog 46 (Kd.slice 95 k95) (Go.Proofs.Ytlbckkagjekhnaa.Opn.okAll ok95) := Go.Proofs.Ytlbckkagjekhnaa.Opn.Op.slice Try.underlying46 (by kernel_rfl) op95
def FnExactStageOrder.Pure : Prop := ∀ (a0 : S24) (a1 : List (S95)), ok24 a0 → (Go.Proofs.Ytlbckkagjekhnaa.Opn.okAll ok95) a1 → ∃ k, laws_FnExactStageOrder.f k (a0.f0) a1 = some true
end Go.Proofs.Ytlbckkagjekhnaa.A

/- StageOrder: the law's contract answers true. -/
namespace Go.Proofs.Ytlbckkagjekhnaa.Pure
open Go.RowKit Go.Proofs.YtlbckkagjekhnaaW.PrintWords Go.Proofs.YtlbckkagjekhnaaW.PrintLast Go.Proofs.YtlbckkagjekhnaaW.PrintMore Go.Proofs.Ytlbckkagjekhnaa.A
theorem okInt_i64 {n : Int} (h : Opn.okInt .i64 n) : -9223372036854775808 ≤ n ∧ n ≤ 9223372036854775807 := by
  have h1 : (decide (IntKind.i64.min ≤ n) && decide (n ≤ IntKind.i64.max)) = true := h
  rw [Bool.and_eq_true, decide_eq_true_eq, decide_eq_true_eq, show IntKind.i64.min = -9223372036854775808 from rfl, show IntKind.i64.max = 9223372036854775807 from rfl] at h1
  exact h1
theorem FnExactStageOrder : Go.Proofs.Ytlbckkagjekhnaa.A.FnExactStageOrder.Pure := by
  intro a0 a1 hok hok1
  refine ⟨0, ?_⟩
  unfold laws_FnExactStageOrder.f
  exact if_pos ⟨⟨hok.1, fun r hr => (hok.2 r hr).1⟩, hok1.1, fun s hs => ⟨(hok1.2 s hs).1.1, fun m hm => (okInt_i64 ((hok1.2 s hs).1.2 m hm)).2, okInt_i64 (hok1.2 s hs).2⟩⟩
end Go.Proofs.Ytlbckkagjekhnaa.Pure

