/- What the row of the law FnExactFindExit stands on, part 2. -/
import Derived.Test.YtlbckkagjekhnaaMFnExactFindExit1
/- The program's search: spread, walked (tools/bursp.py prints its drawing regions). -/
namespace Go.Proofs.Ytlbckkagjekhnaa.A
open Go.RowKit Go.Proofs.YtlbckkagjekhnaaW.PrintWords Go.Proofs.YtlbckkagjekhnaaW.PrintLast Go.Proofs.YtlbckkagjekhnaaW.PrintMore
set_option linter.unusedVariables false
set_option linter.unusedSimpArgs false
/-- A position of the search, the place of the one it was reached from, and the move. -/
abbrev Nd := List Cb × Int × Int
abbrev nodeOf (p : RawSt × List Cb) : Nd := (p.2, p.1.src, p.1.mv)
def visitP (o : List Cb) (k : Int) (S : List Nd) (m : Int) : Option (List Nd) :=
  if (movedP o m).any (fun c => !inCb c (-3) 3) = true then some S
  else if (S.map Prod.fst).contains (movedP o m) = true then some S
  else if S.length = 1200 then none else some (S ++ [(movedP o m, k, m)])
def spreadP (parts : List (List Cb)) (o : List Cb) (k : Int) (S : List Nd) : Option (List Nd) := (movesP parts o).foldlM (visitP o k) S
theorem moves_mem {parts : List (List Cb)} {o : List Cb} {m : Int} (h : m ∈ movesP parts o) : isMv parts.length m = true ∧ possP parts o m = true := by
  unfold movesP at h
  rw [List.mem_map] at h
  obtain ⟨a, ha, rfl⟩ := h
  rw [List.mem_filter] at ha
  have h2 := ha.2
  rw [Bool.and_eq_true, Bool.and_eq_true] at h2
  exact h2.2
theorem isMv_le {n : Nat} (hn : n ≤ 8) {m : Int} (h : isMv n m = true) : m ≤ 9223372036854775807 := by
  unfold isMv at h
  rw [Bool.and_eq_true, Bool.and_eq_true, decide_eq_true_eq, decide_eq_true_eq] at h
  have h1 := h.2.1
  have := pow_le8 n hn
  rw [pow_int] at h1
  omega
theorem movedP_len (o : List Cb) (m : Int) : (movedP o m).length = o.length := by simp [movedP]
theorem fold_next {α β : Type} (f : β → α → Option β) (xs : List α) (s t : β) (j : Nat) (hj : j < xs.length) (h : (xs.take j).foldlM f s = some t) : (xs.take (j + 1)).foldlM f s = f t xs[j] := by
  rw [List.take_succ_eq_append_getElem hj, List.foldlM_append, h]
  show (List.foldlM f t [xs[j]]) = _
  rw [List.foldlM_cons]
  cases f t xs[j] <;> rfl
theorem fold_none {α β : Type} (f : β → α → Option β) (xs : List α) (s : β) (j : Nat) (h : (xs.take j).foldlM f s = none) : xs.foldlM f s = none := by
  conv => lhs; rw [← List.take_append_drop j xs]
  rw [List.foldlM_append, h]
  rfl
set_option maxHeartbeats 1000000 in
set_option maxRecDepth 100000 in
theorem in3_pred (w : World) : PredC w 88 #[] (fun c => !inCb c (-3) 3) := by
  refine ⟨_, Try.func88, by kernel_rfl, by kernel_rfl, ?_⟩
  intro c w' hb
  have hu69 := Try.underlying69
  have HS := A0_ (Sp.start w')
  have HIN := A0_ (inCube_eq c (-3) 3)
  dsimp only
  generalize inCb c (-3) 3 = b at HIN ⊢
  clear hb
  show Calls Try.prog 88 #[vC c] w' _
  go_enter Try.func88, Try.ntmps88
  go_wp2_with (first
    | ((with_reducible refine gate_dst (N := 1) rfl ?_); refine box_event ?hg (N := 1) ?hd (cs := #[.int .i64 c.f0, .int .i64 c.f1, .int .i64 c.f2]) (t := 69) ?hr ?_; (case hd => rfl); (case hg => rfl); (case hr => first | (go_simp; done) | (go_simp; rfl)); intro gc hgb_ wb_ hcb_ hbb_; have HS_ := A0_ (Sp.boxed HS.out hgb_ hcb_ hbb_); clear HS; have HS := HS_; clear HS_; clear hgb_ hcb_ hbb_; have hc0 := (blk_cell (Sp.blk HS.out (i := 0) rfl).1 0).trans rfl; have hc1 := (blk_cell (Sp.blk HS.out (i := 0) rfl).1 1).trans rfl; have hc2 := (blk_cell (Sp.blk HS.out (i := 0) rfl).1 2).trans rfl)
    | (go_at_call 84; refine (impl_inCube.calls c.f0 c.f1 c.f2 (-3) 3 b _ HIN.out).mono ?_; rintro e wc_ ⟨rfl, hb_⟩; have HS_ := A0_ (Sp.far HS.out hb_); clear HS; have HS := HS_; clear HS_; clear hb_ hc0 hc1 hc2))
  go_ret
  exact ⟨rfl, HS.out.below⟩
theorem contains_more (S : List (List Cb)) (nx j : List Cb) (h : j ≠ nx) : (S ++ [nx]).contains j = S.contains j := by
  rw [Bool.eq_iff_iff]
  simp only [List.contains_iff_mem, List.mem_append, List.mem_singleton]
  exact ⟨fun h2 => h2.elim id (fun e => absurd e h), fun h2 => .inl h2⟩
/-- What a call of spread leaves. -/
def spPost (w0 : World) (gt g gM gS : Nat) (Ap : Option Addr) (cp : Nat) (parts : List (List Cb)) (rest : List Res) (r : Option (List Nd)) (e : Ending) (w' : World) : Prop :=
  match r with
  | none => e = .returned (.bool false) ∧ Below w0.heap.size w0 w'
  | some S' => e = .returned (.bool true) ∧ ∃ As cs ST, ST.map nodeOf = S' ∧ (∀ p ∈ ST, p.2.length = parts.length) ∧ ST.length ≤ 1200 ∧ Sp w0 (tkRes w0.heap.size gt g gM gS Ap cp parts As cs ST ++ rest) w'
def spreadF.T9 : Bool × List (List Nat × List Nat) := (true, [([], []), ([0], [0]), ([1], [1]), ([2], [2]), ([], []), ([3, 4], [3, 4])])
def spreadF.B9 : List Nat := [0, 1, 3, 7, 0, 31]
theorem spreadF.tab9 : rtab .any (opsOf Try.f58 9) = spreadF.T9 := by kernel_rfl
theorem spreadF.bits9 : waitsOk spreadF.T9.2 spreadF.B9 = true := by kernel_rfl
def spreadF.T12 : Bool × List (List Nat × List Nat) := (true, [([], []), ([0], [0]), ([1], [1]), ([2], [2]), ([], []), ([3, 4, 0, 1, 2, 3, 4], [3, 4])])
def spreadF.B12 : List Nat := [0, 1, 3, 7, 0, 31]
theorem spreadF.tab12 : rtab .any (opsOf Try.f58 12) = spreadF.T12 := by kernel_rfl
theorem spreadF.bits12 : waitsOk spreadF.T12.2 spreadF.B12 = true := by kernel_rfl
set_option maxHeartbeats 8000000 in
set_option maxRecDepth 100000 in
theorem spread_calls (w0 : World) (Ap : Option Addr) (cp g gM gS gt : Nat) (parts : List (List Cb)) (hF : FrOk w0 Ap parts) (hn : 1 ≤ parts.length ∧ parts.length ≤ 4) (As : Option Addr) (cs : Nat) (ST : List (RawSt × List Cb)) (k : Nat) (p0 : RawSt × List Cb) (hk : ST[k]? = some p0) (hST : ∀ p ∈ ST, p.2.length = parts.length) (h12 : ST.length ≤ 1200) (rest : List Res) (w : World) (hs : Sp w0 (tkRes w0.heap.size gt g gM gS Ap cp parts As cs ST ++ rest) w) :
    Calls Try.prog 58 #[.pointer (some ⟨gt, 0, none⟩), .int .i64 k] w (spPost w0 gt g gM gS Ap cp parts rest (spreadP parts p0.2 k (ST.map nodeOf))) := by
  have hu69 := Try.underlying69
  have hu104 := Try.underlying104
  have hu120 := Try.underlying120
  have hmem : p0 ∈ ST := List.mem_of_getElem? hk
  have hkl : k < ST.length := (List.getElem?_eq_some_iff.1 hk).1
  have hgd : (ST.map Prod.fst).getD k default = p0.1 := by
    rw [List.getD_eq_getElem?_getD, List.getElem?_map, hk]
    rfl
  obtain ⟨hpn, hpc⟩ := Sp.poolN hs (i := 2) rfl hmem
  have hol := hST p0 hmem
  have HC := Sp.rds hs (i := 2) rfl (Rds.pool hmem)
  obtain ⟨⟨A0, n0, c0, s0, m0⟩, o⟩ := p0
  dsimp only at hpn hpc hol hgd HC ⊢
  subst hpn
  obtain ⟨Ao, e, hjunk⟩ := HC.2.2 (by omega)
  subst e
  clear HC hjunk
  have HMEM := A0_ hmem
  have HF := A0_ hF
  have HN := A0_ hn
  have HOL := A0_ hol
  have HST := A0_ hST
  have H12 := A0_ h12
  have HKL := A0_ hkl
  have htk1 : w.cell? ⟨gt, 1, none⟩ = some (.slice As ST.length cs) := (blk_cell (Sp.blk hs (i := 0) rfl).1 1).trans rfl
  obtain ⟨ads, e, hx0, hx1, hx2⟩ := at_St (Sp.reads hs (i := 1) rfl).2.2 k (by rw [List.length_map]; exact hkl)
  subst e
  rw [hgd] at hx0
  have htk0 : w.cell? ⟨gt, 0, none⟩ = some (.pointer (some ⟨g, 0, none⟩)) := (blk_cell (Sp.blk hs (i := 0) rfl).1 0).trans rfl
  have q0 : (0 ≤ (k : Int)) = True := eq_true (by omega)
  have q1 : ((k : Int) < (ST.length : Int)) = True := eq_true (by omega)
  have HS := A0_ (show Sp w0 ([frBlk g gM Ap cp parts, frMemo gM parts, Res.pool w0.heap.size ST, tkBlk gt g gS (some ads) ST.length cs, Res.row kSt 104 w0.heap.size (.slice (some ads) ST.length cs) (ST.map Prod.fst), setR parts.length gS (ST.map Prod.snd)] ++ rest) w from Sp.arr (pre := tkRes w0.heap.size gt g gM gS Ap cp parts (some ads) cs ST) [4, 5, 2, 0, 1, 3] hs rfl rfl)
  have HMV := A0_ (fun rs w2 (hs : Sp w0 ([frBlk g gM Ap cp parts, frMemo gM parts, Res.pool w0.heap.size ST] ++ rs) w2) => moves_calls w0 Ap cp g gM parts HF.out HN.out.1 (Res.pool w0.heap.size ST) Ao c0 o (Rds.pool HMEM.out) HOL.out rs w2 hs)
  have HSP := A0_ (show spreadP parts o k (ST.map nodeOf) = (movesP parts o).foldlM (visitP o k) (ST.map nodeOf) from rfl)
  have HMM := A0_ (fun m (hm : m ∈ movesP parts o) => moves_mem hm)
  obtain ⟨ms, hms⟩ : ∃ ms, ms = movesP parts o := ⟨_, rfl⟩
  rw [← hms] at HMV HSP HMM
  obtain ⟨S0, hS0⟩ : ∃ S0, S0 = ST.map nodeOf := ⟨_, rfl⟩
  rw [HSP.out]
  rw [← hS0]
  have HML := A0_ (show ms.length ≤ 1536 by
    have h1 := movesK_len parts o (6 * 2 ^ parts.length)
    have h2 := pow_le8 parts.length HF.out.len
    have h3 : ms = movesK parts o (6 * 2 ^ parts.length) := hms
    rw [← h3] at h1
    generalize 2 ^ parts.length = N2 at h1 h2
    omega)
  have HS0 := A0_ hS0
  clear hs hF hn hk hST h12 hmem hkl hgd hpc hol hx1 hx2 hms HSP hS0
  go_enter Try.func58, Try.ntmps58
  go_wp2_with (first
    | (go_at_call 86; refine (HMV.out _ _ HS.out).mono ?_; rintro e wm_ ⟨Am, cm, rfl, hs_⟩; have HS_ := A0_ (hs_); clear HS; have HS := HS_; clear HS_; clear hs_ htk0 htk1 hx0))
  go_loopg [26] (ms.length + 1) (fun kq v26 w' => ∃ (j : Nat) (As : Option Addr) (cs : Nat) (ST : List (RawSt × List Cb)), v26 = .int .i64 (j : Int) ∧ Aside0 (j ≤ ms.length ∧ kq + j = ms.length + 1 ∧ (ms.take j).foldlM (visitP o k) S0 = some (ST.map nodeOf) ∧ (⟨some Ao, o.length, c0, s0, m0⟩, o) ∈ ST ∧ (∀ p ∈ ST, p.2.length = parts.length) ∧ ST.length ≤ 1200) ∧ Aside0 (Sp w0 ([frBlk g gM Ap cp parts, frMemo gM parts, Res.pool w0.heap.size ST, tkBlk gt g gS As ST.length cs, Res.row kSt 104 w0.heap.size (.slice As ST.length cs) (ST.map Prod.fst), setR parts.length gS (ST.map Prod.snd), Res.row kI 2 w0.heap.size (.slice Am ms.length cm) ms] ++ rest) w'))
  case atStart => exact ⟨0, _, _, ST, rfl, ⟨by omega, by omega, by rw [HS0.out]; rfl, HMEM.out, HST.out, H12.out⟩, ⟨Sp.arr (pre := [Res.row kI 2 w0.heap.size (.slice Am ms.length cm) ms, frBlk g gM Ap cp parts, frMemo gM parts, Res.pool w0.heap.size ST, tkBlk gt g gS (some ads) ST.length cs, Res.row kSt 104 w0.heap.size (.slice (some ads) ST.length cs) (ST.map Prod.fst), setR parts.length gS (ST.map Prod.snd)]) (rest := rest) [1, 2, 3, 4, 5, 6, 0] HS.out rfl rfl⟩⟩
  case round =>
    clear HS HMEM HST H12 HKL HMV HS0 q0 q1
    obtain ⟨j, As, cs, ST, rfl, HX, HS⟩ := hrel
    obtain ⟨k1, rfl⟩ : ∃ k1, gk = k1 + 1 := ⟨gk - 1, by have := HX.out; omega⟩
    by_cases cj : j < ms.length
    · have cj0 : decide (j < ms.length) = true := decide_eq_true cj
      have hg1 : wr.cell? ⟨gt, 0, none⟩ = some (.pointer (some ⟨g, 0, none⟩)) := (blk_cell (Sp.blk HS.out (i := 3) rfl).1 0).trans rfl
      have htk0 := hg1
      clear hg1
      have q0 : (0 ≤ (j : Int)) = True := eq_true (by omega)
      have q1 : ((j : Int) < (ms.length : Int)) = True := eq_true (by omega)
      obtain ⟨adm, e, hx⟩ := Kd.at_int (Sp.reads HS.out (i := 6) rfl).2.2 (j : Int) (by omega) (by omega)
      subst e
      rw [rd_nat ms j cj, Int.toNat_natCast] at hx
      have HFN := A0_ (fold_next (visitP o k) ms S0 _ j cj HX.out.2.2.1)
      have HFO := A0_ (fun (h : (ms.take (j + 1)).foldlM (visitP o k) S0 = none) => fold_none (visitP o k) ms S0 (j + 1) h)
      obtain ⟨hmv, hps⟩ := HMM.out ms[j] (List.getElem_mem cj)
      have HWJ := A0_ (wrap_succ j (by have := HML.out; omega))
      have HMI := A0_ (isMv_le (by have := HN.out; omega) hmv)
      have hay := fun rs w2 (hs : Sp w0 ([frBlk g gM Ap cp parts, frMemo gM parts, Res.pool w0.heap.size ST] ++ rs) w2) => after_yes w0 Ap cp g gM parts HF.out HN.out.1 (Res.pool w0.heap.size ST) Ao c0 o (Rds.pool HX.out.2.2.2.1) HOL.out ms[j] HMI.out hmv rs w2 hs
      rw [hps] at hay
      obtain ⟨nx, hnx⟩ : ∃ nx, nx = movedP o ms[j] := ⟨_, rfl⟩
      have HNL := A0_ (show nx.length = parts.length by rw [hnx, movedP_len]; exact HOL.out)
      have HNP := A0_ (show 0 < nx.length by have := HNL.out; have := HN.out; omega)
      have HN4 := A0_ (show nx.length ≤ 4 by have := HNL.out; have := HN.out; omega)
      rw [← hnx] at hay
      have HVI := A0_ (show visitP o k (ST.map nodeOf) ms[j] = if nx.any (fun c => !inCb c (-3) 3) = true then some (ST.map nodeOf) else if ((ST.map nodeOf).map Prod.fst).contains nx = true then some (ST.map nodeOf) else if (ST.map nodeOf).length = 1200 then none else some (ST.map nodeOf ++ [((nx, (k : Int), ms[j]) : Nd)]) by unfold visitP; rw [← hnx])
      rw [HVI.out] at HFN
      rw [show (ST.map nodeOf).map Prod.fst = ST.map Prod.snd by rw [List.map_map]; rfl, List.length_map] at HFN
      have HAY := A0_ hay
      generalize ms[j] = m at hx HFN HAY HMI
      clear hnx hay hmv hps HVI cj
      cases han : nx.any (fun c => !inCb c (-3) 3) with
      | true =>
        rw [han, if_pos rfl] at HFN
        have HAN := A0_ han
        clear han
        go_wp2_with (first
          | (go_at_call 87; refine (HAY.out _ _ HS.out).mono ?_; rintro e wt_ ⟨Aa, ca, rfl, hs_⟩; have HS_ := A0_ (hs_); clear HS; have HS := HS_; clear HS_; clear hs_ hx htk0; (obtain ⟨ada, rfl, hjunk_⟩ := (Sp.reads HS.out (i := 0) rfl).2.2.2.2 HNP.out); clear hjunk_)
          | (go_at_call 82; refine (containsFunc_calls (some ada) ca nx _ _ #[] _ (in3_pred _) (Sp.reads HS.out (i := 0) rfl).2.2).mono ?_; rw [HAN.out]; rintro e wc_ ⟨rfl, hb_⟩; have HS_ := A0_ (Sp.far HS.out hb_); clear HS; have HS := HS_; clear HS_; clear hb_))
        go_roundg k1
        case measure => omega
        case rel =>
          rw [HWJ.out]
          exact ⟨j + 1, As, cs, ST, rfl, ⟨by have := of_decide_eq_true cj0; omega, by have := HX.out; omega, HFN.out, HX.out.2.2.2⟩, ⟨Sp.tail HS.out⟩⟩
      | false =>
        rw [han, if_neg (by simp)] at HFN
        have HAN := A0_ han
        obtain ⟨kl, hkl⟩ := key_pos nx (fun c hc => by
          rw [List.any_eq_false] at han
          have h := han c hc
          simp only [Bool.not_eq_true', Bool.not_eq_false] at h
          unfold inCb inR at h ⊢
          simp only [Bool.and_eq_true, decide_eq_true_eq] at h ⊢
          omega)
        have HKL := A0_ hkl
        clear han hkl
        go_wp2_with (first
          | (go_at_call 87; refine (HAY.out _ _ HS.out).mono ?_; rintro e wt_ ⟨Aa, ca, rfl, hs_⟩; have HS_ := A0_ (hs_); clear HS; have HS := HS_; clear HS_; clear hs_ hx htk0; (obtain ⟨ada, rfl, hjunk_⟩ := (Sp.reads HS.out (i := 0) rfl).2.2.2.2 HNP.out); clear hjunk_)
          | (go_at_call 82; refine (containsFunc_calls (some ada) ca nx _ _ #[] _ (in3_pred _) (Sp.reads HS.out (i := 0) rfl).2.2).mono ?_; rw [HAN.out]; rintro e wc_ ⟨rfl, hb_⟩; have HS_ := A0_ (Sp.far HS.out hb_); clear HS; have HS := HS_; clear HS_; clear hb_)
          | ((with_reducible refine gate_builtin (b := .copy) (xs := #[.tmp 43, .tmp 44]) rfl ?_); go_loud (obtain ⟨gk, hg_⟩ : ∃ g_, g_ = (wc_).heap.size := ⟨_, rfl⟩; obtain ⟨wk, hw_⟩ : ∃ w_, w_ = (wc_).alloc (.cells #[.int .i64 0, .int .i64 0, .int .i64 0, .int .i64 0, .int .i64 0, .int .i64 0, .int .i64 0, .int .i64 0, .int .i64 0, .int .i64 0, .int .i64 0, .int .i64 0] 120) := ⟨_, rfl⟩; (try rw [← hw_]); (try rw [← hg_]); have HS_ := A0_ (Sp.box HS.out #[.int .i64 0, .int .i64 0, .int .i64 0, .int .i64 0, .int .i64 0, .int .i64 0, .int .i64 0, .int .i64 0, .int .i64 0, .int .i64 0, .int .i64 0, .int .i64 0] 120); rw [← hw_, ← hg_] at HS_; clear HS; have HS := HS_; clear HS_ hw_ hg_; refine copy_event rfl (.tmp 43) (.tmp 44) 34 34 (.slice (some ⟨gk, 0, none⟩) 4 4) (.slice (some ada) nx.length ca) _ rfl (by first | rfl | (go_simp; done)) (by first | rfl | (go_simp; done)) (copyKey_run _ nx HN4.out HS.out (i := 0) rfl (Sp.reads HS.out (i := 1) rfl).2.2) ?_; have HS_ := A0_ (Sp.copyKey nx HN4.out HS.out (i := 0) rfl); clear HS; have HS := HS_; clear HS_; obtain ⟨wy, hw_⟩ : ∃ w_, w_ = wk.setCells gk 0 (flatC nx) := ⟨_, rfl⟩; rw [← hw_] at HS ⊢; clear hw_)))
        have HPV := A0_ (show posV nx = .agg (posC nx) from rfl)
        obtain ⟨q0, hq0⟩ : ∃ q, q = oAt nx 0 := ⟨_, rfl⟩
        obtain ⟨q1, hq1⟩ : ∃ q, q = oAt nx 1 := ⟨_, rfl⟩
        obtain ⟨q2, hq2⟩ : ∃ q, q = oAt nx 2 := ⟨_, rfl⟩
        obtain ⟨q3, hq3⟩ : ∃ q, q = oAt nx 3 := ⟨_, rfl⟩
        have hpc : posC nx = #[.int .i64 q0.f0, .int .i64 q0.f1, .int .i64 q0.f2, .int .i64 q1.f0, .int .i64 q1.f1, .int .i64 q1.f2, .int .i64 q2.f0, .int .i64 q2.f1, .int .i64 q2.f2, .int .i64 q3.f0, .int .i64 q3.f1, .int .i64 q3.f2] := by rw [hq0, hq1, hq2, hq3]
        rw [hpc] at HPV
        have HS_ := A0_ (show Sp w0 ([Res.blk gk #[.int .i64 q0.f0, .int .i64 q0.f1, .int .i64 q0.f2, .int .i64 q1.f0, .int .i64 q1.f1, .int .i64 q1.f2, .int .i64 q2.f0, .int .i64 q2.f1, .int .i64 q2.f2, .int .i64 q3.f0, .int .i64 q3.f1, .int .i64 q3.f2] 120, Res.row kC 69 w0.heap.size (.slice (some ada) nx.length ca) nx, frBlk g gM Ap cp parts, frMemo gM parts, Res.pool w0.heap.size ST, tkBlk gt g gS As ST.length cs, Res.row kSt 104 w0.heap.size (.slice As ST.length cs) (ST.map Prod.fst), setR parts.length gS (ST.map Prod.snd), Res.row kI 2 w0.heap.size (.slice (some adm) ms.length cm) ms] ++ rest) wy.drew from Sp.drew (by rw [← hpc]; exact HS.out))
        clear HS hq0 hq1 hq2 hq3 hpc
        have HS := HS_
        clear HS_
        cases hct : (ST.map Prod.snd).contains nx with
        | true =>
          rw [hct, if_pos rfl] at HFN
          have HCT := A0_ hct
          clear hct
          refine start_ (n := 6) (S := fun w' => w'.cell? ⟨gt, 2, none⟩ = some (.map (some gS)) ∧ w'.cell? ⟨gk, 0, none⟩ = some (.int .i64 q0.f0) ∧ w'.cell? ⟨gk, 1, none⟩ = some (.int .i64 q0.f1) ∧ w'.cell? ⟨gk, 2, none⟩ = some (.int .i64 q0.f2) ∧ w'.cell? ⟨gk, 3, none⟩ = some (.int .i64 q1.f0) ∧ w'.cell? ⟨gk, 4, none⟩ = some (.int .i64 q1.f1) ∧ w'.cell? ⟨gk, 5, none⟩ = some (.int .i64 q1.f2) ∧ w'.cell? ⟨gk, 6, none⟩ = some (.int .i64 q2.f0) ∧ w'.cell? ⟨gk, 7, none⟩ = some (.int .i64 q2.f1) ∧ w'.cell? ⟨gk, 8, none⟩ = some (.int .i64 q2.f2) ∧ w'.cell? ⟨gk, 9, none⟩ = some (.int .i64 q3.f0) ∧ w'.cell? ⟨gk, 10, none⟩ = some (.int .i64 q3.f1) ∧ w'.cell? ⟨gk, 11, none⟩ = some (.int .i64 q3.f2)) (ds := []) #[false, false, false, false, false, false] (by kernel_rfl) rfl rfl (⟨(blk_cell (Sp.blk HS.out (i := 5) rfl).1 2).trans rfl, (blk_cell (Sp.blk HS.out (i := 0) rfl).1 0).trans rfl, (blk_cell (Sp.blk HS.out (i := 0) rfl).1 1).trans rfl, (blk_cell (Sp.blk HS.out (i := 0) rfl).1 2).trans rfl, (blk_cell (Sp.blk HS.out (i := 0) rfl).1 3).trans rfl, (blk_cell (Sp.blk HS.out (i := 0) rfl).1 4).trans rfl, (blk_cell (Sp.blk HS.out (i := 0) rfl).1 5).trans rfl, (blk_cell (Sp.blk HS.out (i := 0) rfl).1 6).trans rfl, (blk_cell (Sp.blk HS.out (i := 0) rfl).1 7).trans rfl, (blk_cell (Sp.blk HS.out (i := 0) rfl).1 8).trans rfl, (blk_cell (Sp.blk HS.out (i := 0) rfl).1 9).trans rfl, (blk_cell (Sp.blk HS.out (i := 0) rfl).1 10).trans rfl, (blk_cell (Sp.blk HS.out (i := 0) rfl).1 11).trans rfl⟩) (fun hHeld => ?_)
          refine with_tabW spreadF.tab9 spreadF.bits9 (fun HT_ HW_ => ?_)
          generalize wy.drew = wD at HS hHeld ⊢
          refine on_ 0 (some 46) ?_
          refine on_ 1 (some 47) ?_
          refine on_ 2 (some 48) ?_
          refine tk_ 3 (some 49) ?_
          refine tk_ 4 (some 50) ?_
          refine o1_ 5 (some 51) (fun K hK => ?_)
          have hrun := (Sp.setM HS.out (i := 7) rfl).look (t := 87) keyed_pos Try.underlying87 Try.underlying4 zero4 HNL.out HKL.out
          rw [HPV.out, HCT.out] at hrun
          refine event_step (v := .bool true) (w1 := wD) (by rfl) (by first | (go_simp; done) | (go_simp; rfl)) ?_
          clear hrun
          refine hK.out _ _ (⟨(blk_cell (Sp.blk HS.out (i := 5) rfl).1 2).trans rfl, (blk_cell (Sp.blk HS.out (i := 0) rfl).1 0).trans rfl, (blk_cell (Sp.blk HS.out (i := 0) rfl).1 1).trans rfl, (blk_cell (Sp.blk HS.out (i := 0) rfl).1 2).trans rfl, (blk_cell (Sp.blk HS.out (i := 0) rfl).1 3).trans rfl, (blk_cell (Sp.blk HS.out (i := 0) rfl).1 4).trans rfl, (blk_cell (Sp.blk HS.out (i := 0) rfl).1 5).trans rfl, (blk_cell (Sp.blk HS.out (i := 0) rfl).1 6).trans rfl, (blk_cell (Sp.blk HS.out (i := 0) rfl).1 7).trans rfl, (blk_cell (Sp.blk HS.out (i := 0) rfl).1 8).trans rfl, (blk_cell (Sp.blk HS.out (i := 0) rfl).1 9).trans rfl, (blk_cell (Sp.blk HS.out (i := 0) rfl).1 10).trans rfl, (blk_cell (Sp.blk HS.out (i := 0) rfl).1 11).trans rfl⟩) (fun hHeld => ?_)
          clear hK K
          refine nm_ (some 51) ?_
          refine dn_ ?_
          go_wp2
          go_roundg k1
          case measure => omega
          case rel =>
            rw [HWJ.out]
            exact ⟨j + 1, As, cs, ST, rfl, ⟨by have := of_decide_eq_true cj0; omega, by have := HX.out; omega, HFN.out, HX.out.2.2.2⟩, ⟨Sp.tail (Sp.tail HS.out)⟩⟩
        | false =>
          rw [hct, if_neg (by simp)] at HFN
          have HCT := A0_ hct
          clear hct
          refine start_ (n := 6) (S := fun w' => w'.cell? ⟨gt, 2, none⟩ = some (.map (some gS)) ∧ w'.cell? ⟨gk, 0, none⟩ = some (.int .i64 q0.f0) ∧ w'.cell? ⟨gk, 1, none⟩ = some (.int .i64 q0.f1) ∧ w'.cell? ⟨gk, 2, none⟩ = some (.int .i64 q0.f2) ∧ w'.cell? ⟨gk, 3, none⟩ = some (.int .i64 q1.f0) ∧ w'.cell? ⟨gk, 4, none⟩ = some (.int .i64 q1.f1) ∧ w'.cell? ⟨gk, 5, none⟩ = some (.int .i64 q1.f2) ∧ w'.cell? ⟨gk, 6, none⟩ = some (.int .i64 q2.f0) ∧ w'.cell? ⟨gk, 7, none⟩ = some (.int .i64 q2.f1) ∧ w'.cell? ⟨gk, 8, none⟩ = some (.int .i64 q2.f2) ∧ w'.cell? ⟨gk, 9, none⟩ = some (.int .i64 q3.f0) ∧ w'.cell? ⟨gk, 10, none⟩ = some (.int .i64 q3.f1) ∧ w'.cell? ⟨gk, 11, none⟩ = some (.int .i64 q3.f2)) (ds := []) #[false, false, false, false, false, false] (by kernel_rfl) rfl rfl (⟨(blk_cell (Sp.blk HS.out (i := 5) rfl).1 2).trans rfl, (blk_cell (Sp.blk HS.out (i := 0) rfl).1 0).trans rfl, (blk_cell (Sp.blk HS.out (i := 0) rfl).1 1).trans rfl, (blk_cell (Sp.blk HS.out (i := 0) rfl).1 2).trans rfl, (blk_cell (Sp.blk HS.out (i := 0) rfl).1 3).trans rfl, (blk_cell (Sp.blk HS.out (i := 0) rfl).1 4).trans rfl, (blk_cell (Sp.blk HS.out (i := 0) rfl).1 5).trans rfl, (blk_cell (Sp.blk HS.out (i := 0) rfl).1 6).trans rfl, (blk_cell (Sp.blk HS.out (i := 0) rfl).1 7).trans rfl, (blk_cell (Sp.blk HS.out (i := 0) rfl).1 8).trans rfl, (blk_cell (Sp.blk HS.out (i := 0) rfl).1 9).trans rfl, (blk_cell (Sp.blk HS.out (i := 0) rfl).1 10).trans rfl, (blk_cell (Sp.blk HS.out (i := 0) rfl).1 11).trans rfl⟩) (fun hHeld => ?_)
          refine with_tabW spreadF.tab9 spreadF.bits9 (fun HT_ HW_ => ?_)
          generalize wy.drew = wD at HS hHeld ⊢
          refine on_ 0 (some 46) ?_
          refine on_ 1 (some 47) ?_
          refine on_ 2 (some 48) ?_
          refine tk_ 3 (some 49) ?_
          refine tk_ 4 (some 50) ?_
          refine o1_ 5 (some 51) (fun K hK => ?_)
          have hrun := (Sp.setM HS.out (i := 7) rfl).look (t := 87) keyed_pos Try.underlying87 Try.underlying4 zero4 HNL.out HKL.out
          rw [HPV.out, HCT.out] at hrun
          refine event_step (v := .bool false) (w1 := wD) (by rfl) (by first | (go_simp; done) | (go_simp; rfl)) ?_
          clear hrun
          refine hK.out _ _ (⟨(blk_cell (Sp.blk HS.out (i := 5) rfl).1 2).trans rfl, (blk_cell (Sp.blk HS.out (i := 0) rfl).1 0).trans rfl, (blk_cell (Sp.blk HS.out (i := 0) rfl).1 1).trans rfl, (blk_cell (Sp.blk HS.out (i := 0) rfl).1 2).trans rfl, (blk_cell (Sp.blk HS.out (i := 0) rfl).1 3).trans rfl, (blk_cell (Sp.blk HS.out (i := 0) rfl).1 4).trans rfl, (blk_cell (Sp.blk HS.out (i := 0) rfl).1 5).trans rfl, (blk_cell (Sp.blk HS.out (i := 0) rfl).1 6).trans rfl, (blk_cell (Sp.blk HS.out (i := 0) rfl).1 7).trans rfl, (blk_cell (Sp.blk HS.out (i := 0) rfl).1 8).trans rfl, (blk_cell (Sp.blk HS.out (i := 0) rfl).1 9).trans rfl, (blk_cell (Sp.blk HS.out (i := 0) rfl).1 10).trans rfl, (blk_cell (Sp.blk HS.out (i := 0) rfl).1 11).trans rfl⟩) (fun hHeld => ?_)
          clear hK K
          refine nm_ (some 51) ?_
          refine dn_ ?_
          have htk1 : wD.cell? ⟨gt, 1, none⟩ = some (.slice As ST.length cs) := (blk_cell (Sp.blk HS.out (i := 5) rfl).1 1).trans rfl
          by_cases hfull : ST.length = 1200
          · have c0 : ((ST.length : Int) == 1200) = true := by rw [beq_iff_eq]; omega
            have c1 : ((ST.length : Int) = 1200) = True := eq_true (by omega)
            rw [if_pos hfull] at HFN
            have HFF := A0_ (HFO.out HFN.out)
            clear hfull
            go_wp2
            go_ret
            rw [HFF.out]
            exact ⟨rfl, HS.out.below⟩
          · have c0 : ((ST.length : Int) == 1200) = false := by rw [beq_eq_false_iff_ne]; omega
            have c1 : ((ST.length : Int) = 1200) = False := eq_false (by omega)
            rw [if_neg hfull] at HFN
            have HFULL := A0_ hfull
            clear hfull
            go_wp2
            have HS_ := A0_ (Sp.drew HS.out)
            clear HS htk1
            have HS := HS_
            clear HS_
            refine start_ (n := 6) (S := fun w' => w'.cell? ⟨gt, 2, none⟩ = some (.map (some gS)) ∧ w'.cell? ⟨gk, 0, none⟩ = some (.int .i64 q0.f0) ∧ w'.cell? ⟨gk, 1, none⟩ = some (.int .i64 q0.f1) ∧ w'.cell? ⟨gk, 2, none⟩ = some (.int .i64 q0.f2) ∧ w'.cell? ⟨gk, 3, none⟩ = some (.int .i64 q1.f0) ∧ w'.cell? ⟨gk, 4, none⟩ = some (.int .i64 q1.f1) ∧ w'.cell? ⟨gk, 5, none⟩ = some (.int .i64 q1.f2) ∧ w'.cell? ⟨gk, 6, none⟩ = some (.int .i64 q2.f0) ∧ w'.cell? ⟨gk, 7, none⟩ = some (.int .i64 q2.f1) ∧ w'.cell? ⟨gk, 8, none⟩ = some (.int .i64 q2.f2) ∧ w'.cell? ⟨gk, 9, none⟩ = some (.int .i64 q3.f0) ∧ w'.cell? ⟨gk, 10, none⟩ = some (.int .i64 q3.f1) ∧ w'.cell? ⟨gk, 11, none⟩ = some (.int .i64 q3.f2)) (ds := [5]) #[false, false, false, false, false, false] (by kernel_rfl) rfl rfl (⟨(blk_cell (Sp.blk HS.out (i := 5) rfl).1 2).trans rfl, (blk_cell (Sp.blk HS.out (i := 0) rfl).1 0).trans rfl, (blk_cell (Sp.blk HS.out (i := 0) rfl).1 1).trans rfl, (blk_cell (Sp.blk HS.out (i := 0) rfl).1 2).trans rfl, (blk_cell (Sp.blk HS.out (i := 0) rfl).1 3).trans rfl, (blk_cell (Sp.blk HS.out (i := 0) rfl).1 4).trans rfl, (blk_cell (Sp.blk HS.out (i := 0) rfl).1 5).trans rfl, (blk_cell (Sp.blk HS.out (i := 0) rfl).1 6).trans rfl, (blk_cell (Sp.blk HS.out (i := 0) rfl).1 7).trans rfl, (blk_cell (Sp.blk HS.out (i := 0) rfl).1 8).trans rfl, (blk_cell (Sp.blk HS.out (i := 0) rfl).1 9).trans rfl, (blk_cell (Sp.blk HS.out (i := 0) rfl).1 10).trans rfl, (blk_cell (Sp.blk HS.out (i := 0) rfl).1 11).trans rfl⟩) (fun hHeld => ?_)
            refine with_tabW spreadF.tab12 spreadF.bits12 (fun HT_ HW_ => ?_)
            generalize wD.drew = wE at HS hHeld ⊢
            refine on_ 0 (some 58) ?_
            refine on_ 1 (some 59) ?_
            refine on_ 2 (some 60) ?_
            refine tk_ 3 (some 61) ?_
            refine tk_ 4 (some 62) ?_
            refine ol_ 5 none (fun K hK => ?_)
            obtain ⟨wU, hrun, hm_, hgU⟩ := (Sp.setM HS.out (i := 7) rfl).store (t := 87) (i := nx) keyed_pos Try.underlying87 Try.underlying4 (by rw [List.length_map]; unfold maxLen; have := HX.out.2.2.2.2.2; omega) HNL.out HKL.out (fun o => (ST.map Prod.snd ++ [nx]).contains o) (by simp) (fun j_ hj_ hne_ => contains_more _ _ _ hne_) (fun j_ hj_ he_ => posV_inj HN.out.2 hj_ HNL.out he_)
            rw [HPV.out] at hrun
            have HMU := A0_ hm_
            clear hm_
            refine skip_ (w1 := wU) (by rfl) rfl (by first | (go_simp; done) | (go_simp; rfl)) ?_
            have HS_ := A0_ (Sp.setMSet HS.out (i := 7) rfl HMU.out hgU)
            clear HS
            have HS := HS_
            clear HS_
            clear hrun HMU hgU
            refine hK.out _ _ ?_
            clear hK K
            refine dn_ ?_
            have htk1 : wU.cell? ⟨gt, 1, none⟩ = some (.slice As ST.length cs) := (blk_cell (Sp.blk HS.out (i := 5) rfl).1 1).trans rfl
            go_wp2_with (first
              | ((with_reducible refine gate_builtin (b := .append) (xs := #[.tmp 67, .tmp 72]) rfl ?_); at_builtin; obtain ⟨fp_, ho_, hf_, hc_⟩ := Sp.row HS.out (i := 6) rfl; refine Kd.R_append kSt (w0 := w0) w0.heap.size rfl (.tmp 67) (.tmp 72) 86 104 (.agg #[.slice none 0 0, .int .i64 0, .int .i64 0]) 40 rfl Try.underlying86 info104 rfl (by decide) (by omega) (.slice As ST.length cs) (ST.map Prod.fst) ((⟨some ada, nx.length, ca, (k : Int), m⟩ : RawSt)) (stC (⟨some ada, nx.length, ca, (k : Int), m⟩ : RawSt)) _ (fun _ => False) rfl rfl (kSt_mkM _ _ _ (⟨some ada, nx.length, ca, (k : Int), m⟩ : RawSt)) (fun _ hk => hk.elim) (fun _ h => Or.inr h) ho_ HS.out.below HS.out.below.size ?aL ?_; (case aL => rw [List.length_map]; have := HX.out.2.2.2.2.2; omega); intro va_ wa_ ho hb hg hat; have HS_ := A0_ (hc_ _ _ _ ho hg); clear HS; have HS := HS_; clear HS_; clear ho hb hg hat hc_ hf_ ho_ fp_; obtain ⟨As2, cs2, ev_⟩ := Sp.slice HS.out (i := 6) rfl; subst ev_; clear htk1; have ht1 := (blk_cell (Sp.blk HS.out (i := 5) rfl).1 1).trans rfl; have zt1 := blk_frozen (Sp.blk HS.out (i := 5) rfl).1 1)
              | ((with_reducible refine gate_store (t := 86) (p := 75) rfl ?_); refine store_event rfl rfl rfl (w1 := wa_.setCell ⟨gt, 1, none⟩ (.slice As2 (ST.length + 1) cs2)) (by first | (go_simp; done) | (go_simp; rfl)) ?_; intro ws_ hw_; have HS_ := A0_ (Sp.set HS.out 5 rfl 1 (.slice As2 (ST.length + 1) cs2) (blk_put (cs' := #[.pointer (some ⟨g, 0, none⟩), .slice As2 (ST.length + 1) cs2, .map (some gS)]) (Sp.blk HS.out (i := 5) rfl).1 1 _ rfl)); rw [← hw_] at HS_; clear HS hw_; have HS := HS_; clear HS_; clear ht1 zt1))
            go_roundg k1
            case measure => omega
            case rel =>
              rw [HWJ.out]
              obtain ⟨ST2, hST2⟩ : ∃ ST2, ST2 = ST ++ [((⟨some ada, nx.length, ca, (k : Int), m⟩ : RawSt), nx)] := ⟨_, rfl⟩
              have e1 : ST2.length = ST.length + 1 := by rw [hST2, List.length_append]; rfl
              have e2 : ST2.map Prod.fst = ST.map Prod.fst ++ [(⟨some ada, nx.length, ca, (k : Int), m⟩ : RawSt)] := by rw [hST2, List.map_append]; rfl
              have e3 : ST2.map Prod.snd = ST.map Prod.snd ++ [nx] := by rw [hST2, List.map_append]; rfl
              have e4 : (ST.map Prod.fst ++ [(⟨some ada, nx.length, ca, (k : Int), m⟩ : RawSt)]).length = ST.length + 1 := by rw [List.length_append, List.length_map]; rfl
              have e5 : (ST.map Prod.snd).length + 1 = (ST.map Prod.snd ++ [nx]).length := by rw [List.length_append]; rfl
              have h := HS.out
              rw [e4, e5] at h
              refine ⟨j + 1, As2, cs2, ST2, rfl, ⟨by have := of_decide_eq_true cj0; omega, by have := HX.out; omega, ?_, ?_, ?_, ?_⟩, ⟨?_⟩⟩
              · rw [HFN.out, hST2, List.map_append]; rfl
              · rw [hST2]; exact List.mem_append_left _ HX.out.2.2.2.1
              · intro p hp
                rw [hST2] at hp
                rcases List.mem_append.1 hp with hp | hp
                · exact HX.out.2.2.2.2.1 p hp
                · obtain rfl := List.mem_singleton.1 hp
                  exact HNL.out
              · have h1 := HX.out.2.2.2.2.2
                have h2 := HFULL.out
                omega
              · rw [e1, e2, e3]
                have h2 : Sp w0 ([Res.row kC 69 w0.heap.size (.slice (some ada) nx.length ca) nx, Res.pool w0.heap.size ST, frBlk g gM Ap cp parts, frMemo gM parts, tkBlk gt g gS As2 (ST.length + 1) cs2, Res.row kSt 104 w0.heap.size (.slice As2 (ST.length + 1) cs2) (ST.map Prod.fst ++ [(⟨some ada, nx.length, ca, (k : Int), m⟩ : RawSt)]), setR parts.length gS (ST.map Prod.snd ++ [nx]), Res.row kI 2 w0.heap.size (.slice (some adm) ms.length cm) ms] ++ rest) _ := Sp.arr (pre := [Res.row kC 69 w0.heap.size (.slice (some ada) nx.length ca) nx, frBlk g gM Ap cp parts, frMemo gM parts, Res.pool w0.heap.size ST, tkBlk gt g gS As2 (ST.length + 1) cs2, Res.row kSt 104 w0.heap.size (.slice As2 (ST.length + 1) cs2) (ST.map Prod.fst ++ [(⟨some ada, nx.length, ca, (k : Int), m⟩ : RawSt)]), setR parts.length gS (ST.map Prod.snd ++ [nx]), Res.row kI 2 w0.heap.size (.slice (some adm) ms.length cm) ms]) (rest := rest) [0, 3, 1, 2, 4, 5, 6, 7] (Sp.tail h) rfl rfl
                have h3 := Sp.poolAdd (k : Int) m h2
                rw [← hST2] at h3
                exact Sp.arr (pre := [Res.pool w0.heap.size ST2, frBlk g gM Ap cp parts, frMemo gM parts, tkBlk gt g gS As2 (ST.length + 1) cs2, Res.row kSt 104 w0.heap.size (.slice As2 (ST.length + 1) cs2) (ST.map Prod.fst ++ [(⟨some ada, nx.length, ca, (k : Int), m⟩ : RawSt)]), setR parts.length gS (ST.map Prod.snd ++ [nx]), Res.row kI 2 w0.heap.size (.slice (some adm) ms.length cm) ms]) (rest := rest) [1, 2, 0, 3, 4, 5, 6] h3 rfl rfl
    · have cj0 : decide (j < ms.length) = false := decide_eq_false cj
      have HFIN := A0_ (show ms.foldlM (visitP o k) S0 = some (ST.map nodeOf) by
        have h := HX.out.2.2.1
        rw [List.take_of_length_le (by omega)] at h
        exact h)
      clear cj
      go_wp2
      go_ret
      rw [HFIN.out]
      exact ⟨rfl, As, cs, ST, rfl, HX.out.2.2.2.2.1, HX.out.2.2.2.2.2, Sp.arr (pre := [frBlk g gM Ap cp parts, frMemo gM parts, Res.pool w0.heap.size ST, tkBlk gt g gS As ST.length cs, Res.row kSt 104 w0.heap.size (.slice As ST.length cs) (ST.map Prod.fst), setR parts.length gS (ST.map Prod.snd)]) (pre' := tkRes w0.heap.size gt g gM gS Ap cp parts As cs ST) (rest := rest) [3, 4, 2, 5, 0, 1] (Sp.out HS.out 6) rfl rfl⟩
end Go.Proofs.Ytlbckkagjekhnaa.A

/- Whether the cubes of a list hang together, in plain words: a search from the first one. No program in sight. -/
namespace Go.Proofs.Ytlbckkagjekhnaa.A
open Go.RowKit Go.Proofs.YtlbckkagjekhnaaW.PrintWords Go.Proofs.YtlbckkagjekhnaaW.PrintLast Go.Proofs.YtlbckkagjekhnaaW.PrintMore
set_option linter.unusedVariables false
abbrev cAt (o : List Cb) (i : Nat) : Cb := o.getD i ⟨0, 0, 0⟩
def stepsC : List Cb := [⟨0, 0, -1⟩, ⟨0, -1, 0⟩, ⟨-1, 0, 0⟩, ⟨1, 0, 0⟩, ⟨0, 1, 0⟩, ⟨0, 0, 1⟩]
def addO (l o : List Cb) (c : Cb) : List Cb := if (l.contains c && !o.contains c) = true then o ++ [c] else o
/-- The cubes after the first i neighbours of c were looked at. -/
def expI (l o : List Cb) (c : Cb) (i : Nat) : List Cb := (stepsC.take i).foldl (fun o s => addO l o (addC c s)) o
def bfsO (l : List Cb) : Nat → List Cb → Nat → List Cb
  | 0, o, _ => o
  | f + 1, o, k => if k < o.length then bfsO l f (expI l o (cAt o k) 6) (k + 1) else o
def conP (l : List Cb) : Bool := decide ((bfsO l (l.length + 1) [cAt l 0] 0).length = l.length)
def lessC (a b : Cb) : Bool := if a.f2 = b.f2 then (if a.f1 = b.f1 then decide (a.f0 < b.f0) else decide (a.f1 < b.f1)) else decide (a.f2 < b.f2)
def solStep (l : List Cb) (j : Nat) : Bool := inCb (cAt l j) (-100) 100 && (decide (j = 0) || lessC (cAt l (j - 1)) (cAt l j))
/-- A solid part. -/
def solP (l : List Cb) : Bool := (List.range l.length).all (solStep l) && (decide (1 ≤ l.length) && decide (l.length ≤ 24))
theorem inR_len (n : Nat) : inR (n : Int) 1 24 = (decide (1 ≤ n) && decide (n ≤ 24)) := by
  unfold inR
  rw [Bool.eq_iff_iff]
  simp only [Bool.and_eq_true, decide_eq_true_eq]
  omega
theorem solP_end (l : List Cb) (h : (List.range l.length).all (solStep l) = true) : solP l = inR (l.length : Int) 1 24 := by
  unfold solP
  rw [h, Bool.true_and, inR_len]
theorem solP_no (l : List Cb) (j : Nat) (hj : j < l.length) (h : solStep l j = false) : solP l = false := by
  unfold solP
  have : (List.range l.length).all (solStep l) = false := by
    rw [Bool.eq_false_iff]
    intro hc
    rw [List.all_eq_true] at hc
    have := hc j (List.mem_range.2 hj)
    rw [h] at this
    cases this
  rw [this, Bool.false_and]
theorem solP_next (l : List Cb) (j : Nat) (h : (List.range j).all (solStep l) = true) (h2 : solStep l j = true) : (List.range (j + 1)).all (solStep l) = true := by
  rw [List.range_succ, List.all_append, h]
  simp [h2]
def remO (l o : List Cb) : Nat := (l.filter fun c => !o.contains c).length
theorem remO_le (o : List Cb) (c : Cb) : ∀ l : List Cb, remO l (o ++ [c]) ≤ remO l o
  | [] => Nat.le_refl _
  | a :: l => by
    have ih := remO_le o c l
    unfold remO at ih ⊢
    simp only [List.filter_cons]
    by_cases h : o.contains a = true
    · have h2 : (o ++ [c]).contains a = true := by
        rw [List.contains_eq_mem, decide_eq_true_eq] at h ⊢
        exact List.mem_append_left _ h
      rw [h, h2]
      exact ih
    · rw [Bool.not_eq_true] at h
      rw [h]
      cases h2 : (o ++ [c]).contains a with
      | true => simp only [Bool.not_true, Bool.not_false, if_true, Bool.false_eq_true, if_false, List.length_cons]; omega
      | false => simp only [Bool.not_false, if_true, List.length_cons]; omega
theorem remO_lt (o : List Cb) (c : Cb) (hc : o.contains c = false) : ∀ l : List Cb, l.contains c = true → remO l (o ++ [c]) + 1 ≤ remO l o
  | [], h => by simp at h
  | a :: l, h => by
    by_cases e : c = a
    · subst e
      have h1 := remO_le o c l
      have h2 : (o ++ [c]).contains c = true := by
        rw [List.contains_eq_mem, decide_eq_true_eq]
        exact List.mem_append_right _ (List.mem_singleton.2 rfl)
      unfold remO at h1 ⊢
      simp only [List.filter_cons]
      rw [hc, h2]
      simp only [Bool.not_true, Bool.not_false, if_true, Bool.false_eq_true, if_false, List.length_cons]
      omega
    · have h3 : l.contains c = true := by
        rw [List.contains_eq_mem, decide_eq_true_eq] at h ⊢
        rcases List.mem_cons.1 h with h | h
        · exact absurd h e
        · exact h
      have ih := remO_lt o c hc l h3
      have h4 : (o ++ [c]).contains a = o.contains a := by
        rw [List.contains_eq_mem, List.contains_eq_mem, decide_eq_decide]
        constructor
        · intro h
          rcases List.mem_append.1 h with h | h
          · exact h
          · exact absurd (List.mem_singleton.1 h).symm e
        · exact List.mem_append_left _
      unfold remO at ih ⊢
      simp only [List.filter_cons]
      rw [h4]
      cases o.contains a with
      | true => exact ih
      | false => simp only [Bool.not_false, if_true, List.length_cons]; omega
/-- A list of the search: no more cubes than there are. -/
def FitO (l o : List Cb) : Prop := o.length + remO l o ≤ l.length
theorem FitO.len {l o : List Cb} (h : FitO l o) : o.length ≤ l.length := by unfold FitO at h; omega
theorem FitO.start {l : List Cb} (h : 1 ≤ l.length) : FitO l [cAt l 0] := by
  have hc : l.contains (cAt l 0) = true := by
    rw [List.contains_eq_mem, decide_eq_true_eq]
    have hl : 0 < l.length := h
    have : cAt l 0 = l[0] := by simp [cAt, List.getD_eq_getElem?_getD, hl]
    rw [this]
    exact List.getElem_mem _
  have h1 := remO_lt [] (cAt l 0) (by simp) l hc
  have h2 : remO l [] = l.length := by unfold remO; simp
  unfold FitO
  rw [List.nil_append] at h1
  rw [h2] at h1
  simp only [List.length_cons, List.length_nil]
  omega
theorem FitO.add {l o : List Cb} (h : FitO l o) (c : Cb) : FitO l (addO l o c) := by
  unfold addO
  split
  case isFalse => exact h
  rename_i hb
  rw [Bool.and_eq_true, Bool.not_eq_true'] at hb
  have h1 := remO_lt o c hb.2 l hb.1
  unfold FitO at h ⊢
  rw [List.length_append, List.length_cons, List.length_nil]
  omega
theorem expI_succ (l o : List Cb) (c : Cb) (i : Nat) (h : i < 6) : expI l o c (i + 1) = addO l (expI l o c i) (addC c (cAt stepsC i)) := by
  unfold expI
  have hl : i < stepsC.length := h
  rw [List.take_succ_eq_append_getElem hl, List.foldl_append]
  have : cAt stepsC i = stepsC[i] := by simp [cAt, List.getD_eq_getElem?_getD, hl]
  rw [this]
  rfl
theorem FitO.exp {l o : List Cb} (h : FitO l o) (c : Cb) : ∀ i, i ≤ 6 → FitO l (expI l o c i)
  | 0, _ => h
  | i + 1, hi => by
    rw [expI_succ l o c i (by omega)]
    exact (FitO.exp h c i (by omega)).add _
theorem addO_pre (l o : List Cb) (c : Cb) (k : Nat) (h : k < o.length) : k < (addO l o c).length ∧ cAt (addO l o c) k = cAt o k := by
  unfold addO
  split
  · refine ⟨by rw [List.length_append]; omega, ?_⟩
    simp only [cAt, List.getD_eq_getElem?_getD, List.getElem?_append_left h]
  · exact ⟨h, rfl⟩
theorem expI_pre (l o : List Cb) (c : Cb) (k : Nat) (h : k < o.length) : ∀ i, i ≤ 6 → k < (expI l o c i).length ∧ cAt (expI l o c i) k = cAt o k
  | 0, _ => ⟨h, rfl⟩
  | i + 1, hi => by
    rw [expI_succ l o c i (by omega)]
    obtain ⟨h1, h2⟩ := expI_pre l o c k h i (by omega)
    obtain ⟨h3, h4⟩ := addO_pre l (expI l o c i) (addC c (cAt stepsC i)) k h1
    exact ⟨h3, h4.trans h2⟩
end Go.Proofs.Ytlbckkagjekhnaa.A

namespace Go.Proofs.Ytlbckkagjekhnaa.A
open Go.RowKit Go.Proofs.YtlbckkagjekhnaaW.PrintWords Go.Proofs.YtlbckkagjekhnaaW.PrintLast Go.Proofs.YtlbckkagjekhnaaW.PrintMore
attribute [local go_sem] max2_int min2_int max_two min_two max_three min_three max_four min_four   -- for this text's walks alone
set_option linter.unusedVariables false
set_option linter.unusedSimpArgs false
def impl_isCoordinate.f (a0 : Int) : Option (Bool) := (impl_within.f a0 (-100) 100).bind fun t246 => (some t246)
set_option maxHeartbeats 8000000 in
set_option maxRecDepth 100000 in
theorem impl_isCoordinate.calls (a0 : Int) (r : Bool) (w : World) (h : impl_isCoordinate.f a0 = some r) :
    Calls Try.prog 108 #[.int .i64 a0] w fun e w' => e = .returned (.bool r) ∧ Drawn0 w w' := by
 have H : ((impl_within.f a0 (-100) 100).bind fun t246 => (some t246)) = some r := h
 clear h; (replace H := Option.bind_eq_some_iff.mp H); (obtain ⟨t246, A20, H⟩ := H); (try dsimp only at H); (have A2 := A0_ A20); clear A20; (have H0_ := A0_ H); clear H; (go_enter Try.func108, Try.ntmps108); (go_wp2_with (first | ((with_reducible refine gate_callee (f := 50) rfl ?_); refine goesL_ (some 4) rfl rfl Try.func50 (by kernel_rfl) rfl #[.int .i64 a0, .int .i64 (-100), .int .i64 100] rfl (by (try simp only [List.map_toArray, List.map_cons, List.map_nil]); first | done | rfl | (simp only [List.length_drop, List.length_take]; rfl)) ?_; (with_reducible refine (impl_within.calls a0 (-100) 100 t246 _ A2.out).mono ?_); rintro e w' ⟨rfl, ⟨nd, rfl⟩⟩; refine ⟨_, rfl, ?_⟩; refine Stop0.out ?_))); (refine Stop0.mk ?_); (have H := H0_.out); clear H0_; (obtain rfl := Option.some.inj H); go_wp2; go_ret; (exact ⟨by first | rfl | (simp; done) | (simp [*]; done), by repeat (first | exact Drawn0.refl _ | apply Drawn0.step)⟩)
end Go.Proofs.Ytlbckkagjekhnaa.A

namespace Go.Proofs.Ytlbckkagjekhnaa.A
open Go.RowKit Go.Proofs.YtlbckkagjekhnaaW.PrintWords Go.Proofs.YtlbckkagjekhnaaW.PrintLast Go.Proofs.YtlbckkagjekhnaaW.PrintMore
attribute [local go_sem] max2_int min2_int max_two min_two max_three min_three max_four min_four   -- for this text's walks alone
set_option linter.unusedVariables false
set_option linter.unusedSimpArgs false
def cmp_isNaN_int64.f (a0 : Int) : Option (Bool) := some (a0 != a0)
set_option maxHeartbeats 8000000 in
set_option maxRecDepth 100000 in
theorem cmp_isNaN_int64.calls (a0 : Int) (r : Bool) (w : World) (h : cmp_isNaN_int64.f a0 = some r) :
    Calls Try.prog 125 #[.int .i64 a0] w fun e w' => e = .returned (.bool r) ∧ Drawn0 w w' := by
 (have H : (some (a0 != a0)) = some r := h); clear h; (obtain rfl := Option.some.inj H); (go_enter Try.func125, Try.ntmps125); go_wp2; go_ret; (exact ⟨by first | rfl | (simp; done) | (simp [*]; done), by repeat (first | exact Drawn0.refl _ | apply Drawn0.step)⟩)
end Go.Proofs.Ytlbckkagjekhnaa.A

namespace Go.Proofs.Ytlbckkagjekhnaa.A
open Go.RowKit Go.Proofs.YtlbckkagjekhnaaW.PrintWords Go.Proofs.YtlbckkagjekhnaaW.PrintLast Go.Proofs.YtlbckkagjekhnaaW.PrintMore
attribute [local go_sem] max2_int min2_int max_two min_two max_three min_three max_four min_four   -- for this text's walks alone
set_option linter.unusedVariables false
set_option linter.unusedSimpArgs false
def cmp_Compare_int64.f (a0 : Int) (a1 : Int) : Option (Int) := (cmp_isNaN_int64.f a0).bind fun t247 => ((cmp_isNaN_int64.f a1).bind fun t248 => (if t247 = true then (if t248 = true then (some 0) else (some (-1))) else (if t248 = true then (some 1) else (if a0 < a1 then (some (-1)) else (if a0 > a1 then (some 1) else (some 0))))))
set_option maxHeartbeats 8000000 in
set_option maxRecDepth 100000 in
theorem cmp_Compare_int64.calls (a0 : Int) (a1 : Int) (r : Int) (w : World) (h : cmp_Compare_int64.f a0 a1 = some r) :
    Calls Try.prog 120 #[.int .i64 a0, .int .i64 a1] w fun e w' => e = .returned (.int .i64 r) ∧ Drawn0 w w' := by
 have H : ((cmp_isNaN_int64.f a0).bind fun t247 => ((cmp_isNaN_int64.f a1).bind fun t248 => (if t247 = true then (if t248 = true then (some 0) else (some (-1))) else (if t248 = true then (some 1) else (if a0 < a1 then (some (-1)) else (if a0 > a1 then (some 1) else (some 0))))))) = some r := h
 clear h; (replace H := Option.bind_eq_some_iff.mp H); (obtain ⟨t247, A30, H⟩ := H); (try dsimp only at H); (have A3 := A0_ A30); clear A30; (have H0_ := A0_ H); clear H; (go_enter Try.func120, Try.ntmps120); (go_wp2_with (first | ((with_reducible refine gate_callee (f := 125) rfl ?_); refine goesL_ (some 8) rfl rfl Try.func125 (by kernel_rfl) rfl #[.int .i64 a0] rfl (by (try simp only [List.map_toArray, List.map_cons, List.map_nil]); first | done | rfl | (simp only [List.length_drop, List.length_take]; rfl)) ?_; (with_reducible refine (cmp_isNaN_int64.calls a0 t247 _ A3.out).mono ?_); rintro e w' ⟨rfl, ⟨nd, rfl⟩⟩; refine ⟨_, rfl, ?_⟩; refine Stop0.out ?_))); (refine Stop0.mk ?_); (have H := H0_.out); clear H0_; (replace H := Option.bind_eq_some_iff.mp H); (obtain ⟨t248, A40, H⟩ := H); (try dsimp only at H); (have A4 := A0_ A40); clear A40; (have H0_ := A0_ H); clear H; (go_wp2_with (first | ((with_reducible refine gate_callee (f := 125) rfl ?_); refine goesL_ (some 10) rfl rfl Try.func125 (by kernel_rfl) rfl #[.int .i64 a1] rfl (by (try simp only [List.map_toArray, List.map_cons, List.map_nil]); first | done | rfl | (simp only [List.length_drop, List.length_take]; rfl)) ?_; (with_reducible refine (cmp_isNaN_int64.calls a1 t248 _ A4.out).mono ?_); rintro e w' ⟨rfl, ⟨nd, rfl⟩⟩; refine ⟨_, rfl, ?_⟩; refine Stop0.out ?_))); (refine Stop0.mk ?_); (have H := H0_.out); clear H0_; (by_cases c5 : t247 = true)
 ·subst c5; (have H1 := H); (rw [if_pos rfl] at H1); clear H; (have H := H1); clear H1; (by_cases c6 : t248 = true)
  ·subst c6; (have H1 := H); (rw [if_pos rfl] at H1); clear H; (have H := H1); clear H1; (obtain rfl := Option.some.inj H); go_wp2; go_ret; (exact ⟨by first | rfl | (simp; done) | (simp [*]; done), by repeat (first | exact Drawn0.refl _ | apply Drawn0.step)⟩)
  ·(replace c6 := Bool.eq_false_iff.mpr c6); subst c6; (have H1 : (some (-1)) = some r := by rw [if_neg (show ¬ (false = true) by decide)] at H; exact H); clear H; (have H := H1); clear H1; (obtain rfl := Option.some.inj H); go_wp2; go_ret; (exact ⟨by first | rfl | (simp; done) | (simp [*]; done), by repeat (first | exact Drawn0.refl _ | apply Drawn0.step)⟩)
 ·(replace c5 := Bool.eq_false_iff.mpr c5); subst c5; (have H1 : (if t248 = true then (some 1) else (if a0 < a1 then (some (-1)) else (if a0 > a1 then (some 1) else (some 0)))) = some r := by rw [if_neg (show ¬ (false = true) by decide)] at H; exact H); clear H; (have H := H1); clear H1; (by_cases c7 : t248 = true)
  ·subst c7; (have H1 := H); (rw [if_pos rfl] at H1); clear H; (have H := H1); clear H1; (obtain rfl := Option.some.inj H); go_wp2; go_ret; (exact ⟨by first | rfl | (simp; done) | (simp [*]; done), by repeat (first | exact Drawn0.refl _ | apply Drawn0.step)⟩)
  ·(replace c7 := Bool.eq_false_iff.mpr c7); subst c7; (have H1 : (if a0 < a1 then (some (-1)) else (if a0 > a1 then (some 1) else (some 0))) = some r := by rw [if_neg (show ¬ (false = true) by decide)] at H; exact H); clear H; (have H := H1); clear H1; (by_cases c8 : a0 < a1)
   ·(rw [if_pos c8] at H); (have c8b0 : decide (a0 < a1) = true := decide_eq_true c8); clear c8; (obtain rfl := Option.some.inj H); go_wp2; go_ret; (exact ⟨by first | rfl | (simp; done) | (simp [*]; done), by repeat (first | exact Drawn0.refl _ | apply Drawn0.step)⟩)
   ·(rw [if_neg c8] at H); (have c8b0 : decide (a0 < a1) = false := decide_eq_false c8); clear c8; (by_cases c9 : a0 > a1)
    ·(rw [if_pos c9] at H); (have c9b0 : decide (a1 < a0) = true := decide_eq_true c9); clear c9; (obtain rfl := Option.some.inj H); go_wp2; go_ret; (exact ⟨by first | rfl | (simp; done) | (simp [*]; done), by repeat (first | exact Drawn0.refl _ | apply Drawn0.step)⟩)
    ·(rw [if_neg c9] at H); (have c9b0 : decide (a1 < a0) = false := decide_eq_false c9); clear c9; (obtain rfl := Option.some.inj H); go_wp2; go_ret; (exact ⟨by first | rfl | (simp; done) | (simp [*]; done), by repeat (first | exact Drawn0.refl _ | apply Drawn0.step)⟩)
end Go.Proofs.Ytlbckkagjekhnaa.A

namespace Go.Proofs.Ytlbckkagjekhnaa.A
open Go.RowKit Go.Proofs.YtlbckkagjekhnaaW.PrintWords Go.Proofs.YtlbckkagjekhnaaW.PrintLast Go.Proofs.YtlbckkagjekhnaaW.PrintMore
attribute [local go_sem] max2_int min2_int max_two min_two max_three min_three max_four min_four   -- for this text's walks alone
set_option linter.unusedVariables false
set_option linter.unusedSimpArgs false
def impl_compareCells.f (a0_0 : Int) (a0_1 : Int) (a1_0 : Int) (a1_1 : Int) : Option (Int) := (cmp_Compare_int64.f a0_1 a1_1).bind fun t251 => (if t251 = 0 then ((cmp_Compare_int64.f a0_0 a1_0).bind fun t252 => (some t252)) else (some t251))
set_option maxHeartbeats 8000000 in
set_option maxRecDepth 100000 in
theorem impl_compareCells.calls (a0_0 : Int) (a0_1 : Int) (a1_0 : Int) (a1_1 : Int) (r : Int) (w : World) (h : impl_compareCells.f a0_0 a0_1 a1_0 a1_1 = some r) :
    Calls Try.prog 121 #[.agg #[.int .i64 a0_0, .int .i64 a0_1], .agg #[.int .i64 a1_0, .int .i64 a1_1]] w fun e w' => e = .returned (.int .i64 r) ∧ Below w.heap.size w w' := by
 (have hu148 := Try.underlying148); (have HB := A0_ (Below.refl w.heap.size w))
 have H : ((cmp_Compare_int64.f a0_1 a1_1).bind fun t251 => (if t251 = 0 then ((cmp_Compare_int64.f a0_0 a1_0).bind fun t252 => (some t252)) else (some t251))) = some r := h
 clear h; (replace H := Option.bind_eq_some_iff.mp H); (obtain ⟨t251, A30, H⟩ := H); (try dsimp only at H); (have A3 := A0_ A30); clear A30; (have H0_ := A0_ H); clear H; (go_enter Try.func121, Try.ntmps121); (go_wp2_with (first | ((with_reducible refine gate_dst (N := 2) rfl ?_); refine box_event ?hg (N := 2) ?hd (cs := #[.int .i64 a0_0, .int .i64 a0_1]) (t := 148) ?hr ?_; (case hd => rfl); (case hg => rfl); (case hr => first | (go_simp; done) | (go_simp; rfl)); intro gb249 hg w4 hbox hb; have n0_ := A0_ (below_step (by repeat (first | (with_reducible first | exact HB.out | apply ba_ | apply bn_ | apply bd_) | exact HB.out)) hb); have n1_ := A0_ (hbox); have n2_ := A0_ ((by rw [hg]; exact (below_size (by repeat (first | (with_reducible first | exact HB.out | apply ba_ | apply bn_ | apply bd_) | exact HB.out))) : w.heap.size ≤ gb249)); have n3_ := A0_ ((by rw [hg]; exact (below_size (by repeat (first | (with_reducible first | exact HB.out | apply ba_ | apply bn_ | apply bd_) | exact HB.out))) : w.heap.size ≤ gb249)); clear HB; have HB := n0_; have BK249 := n1_; have GW249 := n2_; have GE249 := n3_; clear n0_ n1_ n2_ n3_; clear hb hbox hg) | ((with_reducible refine gate_dst (N := 3) rfl ?_); refine box_event ?hg (N := 3) ?hd (cs := #[.int .i64 a1_0, .int .i64 a1_1]) (t := 148) ?hr ?_; (case hd => rfl); (case hg => rfl); (case hr => first | (go_simp; done) | (go_simp; rfl)); intro gb250 hg w5 hbox hb; have n0_ := A0_ (blk_below (g := gb249) (o := .cells #[.int .i64 a0_0, .int .i64 a0_1] 148 (0, 0)) (by (with_reducible repeat (first | apply gn_ | apply gd_ | apply ga_)); exact BK249.out) hb); have n1_ := A0_ (below_step (by repeat (first | (with_reducible first | exact HB.out | apply ba_ | apply bn_ | apply bd_ | refine below_set ?_ GE249.out) | exact HB.out)) hb); have n2_ := A0_ (hbox); have n3_ := A0_ ((by rw [hg]; exact (below_size (by repeat (first | (with_reducible first | exact HB.out | apply ba_ | apply bn_ | apply bd_ | refine below_set ?_ GE249.out) | exact HB.out))) : w.heap.size ≤ gb250)); have n4_ := A0_ ((by rw [hg]; exact (below_size (by repeat (first | (with_reducible first | exact HB.out | apply ba_ | apply bn_ | apply bd_ | refine below_set ?_ GE249.out) | exact HB.out))) : w.heap.size ≤ gb250)); have n5_ := A0_ ((by rw [hg]; exact Nat.ne_of_lt (blk_lt (g := gb249) (o := .cells #[.int .i64 a0_0, .int .i64 a0_1] 148 (0, 0)) (by (with_reducible repeat (first | apply gn_ | apply gd_ | apply ga_)); exact BK249.out)) : gb249 ≠ gb250)); have n6_ := A0_ ((by rw [hg]; exact Nat.ne_of_gt (blk_lt (g := gb249) (o := .cells #[.int .i64 a0_0, .int .i64 a0_1] 148 (0, 0)) (by (with_reducible repeat (first | apply gn_ | apply gd_ | apply ga_)); exact BK249.out)) : gb250 ≠ gb249)); clear BK249; clear HB; have BK249 := n0_; have HB := n1_; have BK250 := n2_; have GW250 := n3_; have GE250 := n4_; have NB249_250 := n5_; have NB250_249 := n6_; clear n0_ n1_ n2_ n3_ n4_ n5_ n6_; clear hb hbox hg; have hnb6 := NB249_250.out; have hnc6 := NB250_249.out; have hcz7_0 : w5.cell? ⟨gb249, 0, none⟩ = some (.int .i64 a0_0) := (blk_cell BK249.out 0).trans rfl; have hcz7_1 : w5.cell? ⟨gb249, 1, none⟩ = some (.int .i64 a0_1) := (blk_cell BK249.out 1).trans rfl; have hfz7_0 := blk_frozen BK249.out 0; have hfz7_1 := blk_frozen BK249.out 1; have hcz8_0 : w5.cell? ⟨gb250, 0, none⟩ = some (.int .i64 a1_0) := (blk_cell BK250.out 0).trans rfl; have hcz8_1 : w5.cell? ⟨gb250, 1, none⟩ = some (.int .i64 a1_1) := (blk_cell BK250.out 1).trans rfl; have hfz8_0 := blk_frozen BK250.out 0; have hfz8_1 := blk_frozen BK250.out 1) | ((with_reducible refine gate_callee (f := 120) rfl ?_); refine goesL_ (some 10) rfl rfl Try.func120 (by kernel_rfl) rfl #[.int .i64 a0_1, .int .i64 a1_1] rfl (by (try simp only [List.map_toArray, List.map_cons, List.map_nil]); first | done | rfl | (simp only [List.length_drop, List.length_take]; rfl)) ?_; (with_reducible refine (cmp_Compare_int64.calls a0_1 a1_1 t251 _ A3.out).mono ?_); rintro e w' ⟨rfl, ⟨nd, rfl⟩⟩; refine ⟨_, rfl, ?_⟩; refine Stop0.out ?_))); (refine Stop0.mk ?_); (have H := H0_.out); clear H0_; (by_cases c9 : t251 = 0)
 ·(rw [if_pos c9] at H); (have c9b0 : (t251 == 0) = true := beq_iff_eq.mpr c9); (have c9b1 : (t251 != 0) = false := bne_eq_false_iff_eq.mpr c9); clear c9; (replace H := Option.bind_eq_some_iff.mp H); (obtain ⟨t252, A100, H⟩ := H); (try dsimp only at H); (have A10 := A0_ A100); clear A100; (have H0_ := A0_ H); clear H; (have hnb11 := NB249_250.out); (have hnc11 := NB250_249.out); (have hcz12_0 : w5.cell? ⟨gb249, 0, none⟩ = some (.int .i64 a0_0) := (blk_cell BK249.out 0).trans rfl); (have hcz12_1 : w5.cell? ⟨gb249, 1, none⟩ = some (.int .i64 a0_1) := (blk_cell BK249.out 1).trans rfl); (have hfz12_0 := blk_frozen BK249.out 0); (have hfz12_1 := blk_frozen BK249.out 1); (have hcz13_0 : w5.cell? ⟨gb250, 0, none⟩ = some (.int .i64 a1_0) := (blk_cell BK250.out 0).trans rfl); (have hcz13_1 : w5.cell? ⟨gb250, 1, none⟩ = some (.int .i64 a1_1) := (blk_cell BK250.out 1).trans rfl); (have hfz13_0 := blk_frozen BK250.out 0); (have hfz13_1 := blk_frozen BK250.out 1); (go_wp2_with (first | ((with_reducible refine gate_callee (f := 120) rfl ?_); refine goesL_ (some 18) rfl rfl Try.func120 (by kernel_rfl) rfl #[.int .i64 a0_0, .int .i64 a1_0] rfl (by (try simp only [List.map_toArray, List.map_cons, List.map_nil]); first | done | rfl | (simp only [List.length_drop, List.length_take]; rfl)) ?_; (with_reducible refine (cmp_Compare_int64.calls a0_0 a1_0 t252 _ A10.out).mono ?_); rintro e w' ⟨rfl, ⟨nd, rfl⟩⟩; refine ⟨_, rfl, ?_⟩; refine Stop0.out ?_))); (refine Stop0.mk ?_); (have H := H0_.out); clear H0_; (obtain rfl := Option.some.inj H); go_wp2; go_ret; (exact ⟨by first | rfl | (simp [errW_none, errW_some] <;> rfl) | (simp [*, errW_none, errW_some] <;> rfl), by repeat (first | (with_reducible first | exact HB.out | apply ba_ | apply bn_ | apply bd_ | refine below_set ?_ GE249.out | refine below_set ?_ GE250.out) | exact HB.out)⟩)
 ·(rw [if_neg c9] at H); (have c9b0 : (t251 == 0) = false := beq_eq_false_iff_ne.mpr c9); (have c9b1 : (t251 != 0) = true := bne_iff_ne.mpr c9); (obtain rfl := Option.some.inj H); go_wp2; go_ret; (exact ⟨by first | rfl | (simp [errW_none, errW_some] <;> rfl) | (simp [*, errW_none, errW_some] <;> rfl), by repeat (first | (with_reducible first | exact HB.out | apply ba_ | apply bn_ | apply bd_ | refine below_set ?_ GE249.out | refine below_set ?_ GE250.out) | exact HB.out)⟩)
end Go.Proofs.Ytlbckkagjekhnaa.A

namespace Go.Proofs.Ytlbckkagjekhnaa.A
open Go.RowKit Go.Proofs.YtlbckkagjekhnaaW.PrintWords Go.Proofs.YtlbckkagjekhnaaW.PrintLast Go.Proofs.YtlbckkagjekhnaaW.PrintMore
attribute [local go_sem] max2_int min2_int max_two min_two max_three min_three max_four min_four   -- for this text's walks alone
set_option linter.unusedVariables false
set_option linter.unusedSimpArgs false
def impl_compareCubes.f (a0_0 : Int) (a0_1 : Int) (a0_2 : Int) (a1_0 : Int) (a1_1 : Int) (a1_2 : Int) : Option (Int) := (cmp_Compare_int64.f a0_2 a1_2).bind fun t255 => (if t255 = 0 then ((impl_compareCells.f a0_0 a0_1 a1_0 a1_1).bind fun t256 => (some t256)) else (some t255))
set_option maxHeartbeats 8000000 in
set_option maxRecDepth 100000 in
theorem impl_compareCubes.calls (a0_0 : Int) (a0_1 : Int) (a0_2 : Int) (a1_0 : Int) (a1_1 : Int) (a1_2 : Int) (r : Int) (w : World) (h : impl_compareCubes.f a0_0 a0_1 a0_2 a1_0 a1_1 a1_2 = some r) :
    Calls Try.prog 109 #[.agg #[.int .i64 a0_0, .int .i64 a0_1, .int .i64 a0_2], .agg #[.int .i64 a1_0, .int .i64 a1_1, .int .i64 a1_2]] w fun e w' => e = .returned (.int .i64 r) ∧ Below w.heap.size w w' := by
 (have hu69 := Try.underlying69); (have hu148 := Try.underlying148); (have HB := A0_ (Below.refl w.heap.size w))
 have H : ((cmp_Compare_int64.f a0_2 a1_2).bind fun t255 => (if t255 = 0 then ((impl_compareCells.f a0_0 a0_1 a1_0 a1_1).bind fun t256 => (some t256)) else (some t255))) = some r := h
 clear h; (replace H := Option.bind_eq_some_iff.mp H); (obtain ⟨t255, A30, H⟩ := H); (try dsimp only at H); (have A3 := A0_ A30); clear A30; (have H0_ := A0_ H); clear H; (go_enter Try.func109, Try.ntmps109); (go_wp2_with (first | ((with_reducible refine gate_dst (N := 2) rfl ?_); refine box_event ?hg (N := 2) ?hd (cs := #[.int .i64 a0_0, .int .i64 a0_1, .int .i64 a0_2]) (t := 69) ?hr ?_; (case hd => rfl); (case hg => rfl); (case hr => first | (go_simp; done) | (go_simp; rfl)); intro gb253 hg w4 hbox hb; have n0_ := A0_ (below_step (by repeat (first | (with_reducible first | exact HB.out | apply ba_ | apply bn_ | apply bd_) | exact HB.out)) hb); have n1_ := A0_ (hbox); have n2_ := A0_ ((by rw [hg]; exact (below_size (by repeat (first | (with_reducible first | exact HB.out | apply ba_ | apply bn_ | apply bd_) | exact HB.out))) : w.heap.size ≤ gb253)); have n3_ := A0_ ((by rw [hg]; exact (below_size (by repeat (first | (with_reducible first | exact HB.out | apply ba_ | apply bn_ | apply bd_) | exact HB.out))) : w.heap.size ≤ gb253)); clear HB; have HB := n0_; have BK253 := n1_; have GW253 := n2_; have GE253 := n3_; clear n0_ n1_ n2_ n3_; clear hb hbox hg) | ((with_reducible refine gate_dst (N := 3) rfl ?_); refine box_event ?hg (N := 3) ?hd (cs := #[.int .i64 a1_0, .int .i64 a1_1, .int .i64 a1_2]) (t := 69) ?hr ?_; (case hd => rfl); (case hg => rfl); (case hr => first | (go_simp; done) | (go_simp; rfl)); intro gb254 hg w5 hbox hb; have n0_ := A0_ (blk_below (g := gb253) (o := .cells #[.int .i64 a0_0, .int .i64 a0_1, .int .i64 a0_2] 69 (0, 0)) (by (with_reducible repeat (first | apply gn_ | apply gd_ | apply ga_)); exact BK253.out) hb); have n1_ := A0_ (below_step (by repeat (first | (with_reducible first | exact HB.out | apply ba_ | apply bn_ | apply bd_ | refine below_set ?_ GE253.out) | exact HB.out)) hb); have n2_ := A0_ (hbox); have n3_ := A0_ ((by rw [hg]; exact (below_size (by repeat (first | (with_reducible first | exact HB.out | apply ba_ | apply bn_ | apply bd_ | refine below_set ?_ GE253.out) | exact HB.out))) : w.heap.size ≤ gb254)); have n4_ := A0_ ((by rw [hg]; exact (below_size (by repeat (first | (with_reducible first | exact HB.out | apply ba_ | apply bn_ | apply bd_ | refine below_set ?_ GE253.out) | exact HB.out))) : w.heap.size ≤ gb254)); have n5_ := A0_ ((by rw [hg]; exact Nat.ne_of_lt (blk_lt (g := gb253) (o := .cells #[.int .i64 a0_0, .int .i64 a0_1, .int .i64 a0_2] 69 (0, 0)) (by (with_reducible repeat (first | apply gn_ | apply gd_ | apply ga_)); exact BK253.out)) : gb253 ≠ gb254)); have n6_ := A0_ ((by rw [hg]; exact Nat.ne_of_gt (blk_lt (g := gb253) (o := .cells #[.int .i64 a0_0, .int .i64 a0_1, .int .i64 a0_2] 69 (0, 0)) (by (with_reducible repeat (first | apply gn_ | apply gd_ | apply ga_)); exact BK253.out)) : gb254 ≠ gb253)); clear BK253; clear HB; have BK253 := n0_; have HB := n1_; have BK254 := n2_; have GW254 := n3_; have GE254 := n4_; have NB253_254 := n5_; have NB254_253 := n6_; clear n0_ n1_ n2_ n3_ n4_ n5_ n6_; clear hb hbox hg; have hnb6 := NB253_254.out; have hnc6 := NB254_253.out; have hcz7_0 : w5.cell? ⟨gb253, 0, none⟩ = some (.int .i64 a0_0) := (blk_cell BK253.out 0).trans rfl; have hcz7_1 : w5.cell? ⟨gb253, 1, none⟩ = some (.int .i64 a0_1) := (blk_cell BK253.out 1).trans rfl; have hcz7_2 : w5.cell? ⟨gb253, 2, none⟩ = some (.int .i64 a0_2) := (blk_cell BK253.out 2).trans rfl; have hfz7_0 := blk_frozen BK253.out 0; have hfz7_1 := blk_frozen BK253.out 1; have hfz7_2 := blk_frozen BK253.out 2; have hcz8_0 : w5.cell? ⟨gb254, 0, none⟩ = some (.int .i64 a1_0) := (blk_cell BK254.out 0).trans rfl; have hcz8_1 : w5.cell? ⟨gb254, 1, none⟩ = some (.int .i64 a1_1) := (blk_cell BK254.out 1).trans rfl; have hcz8_2 : w5.cell? ⟨gb254, 2, none⟩ = some (.int .i64 a1_2) := (blk_cell BK254.out 2).trans rfl; have hfz8_0 := blk_frozen BK254.out 0; have hfz8_1 := blk_frozen BK254.out 1; have hfz8_2 := blk_frozen BK254.out 2) | ((with_reducible refine gate_callee (f := 120) rfl ?_); refine goesL_ (some 10) rfl rfl Try.func120 (by kernel_rfl) rfl #[.int .i64 a0_2, .int .i64 a1_2] rfl (by (try simp only [List.map_toArray, List.map_cons, List.map_nil]); first | done | rfl | (simp only [List.length_drop, List.length_take]; rfl)) ?_; (with_reducible refine (cmp_Compare_int64.calls a0_2 a1_2 t255 _ A3.out).mono ?_); rintro e w' ⟨rfl, ⟨nd, rfl⟩⟩; refine ⟨_, rfl, ?_⟩; refine Stop0.out ?_))); (refine Stop0.mk ?_); (have H := H0_.out); clear H0_; (by_cases c9 : t255 = 0)
 ·(rw [if_pos c9] at H); (have c9b0 : (t255 == 0) = true := beq_iff_eq.mpr c9); (have c9b1 : (t255 != 0) = false := bne_eq_false_iff_eq.mpr c9); clear c9; (replace H := Option.bind_eq_some_iff.mp H); (obtain ⟨t256, A100, H⟩ := H); (try dsimp only at H); (have A10 := A0_ A100); clear A100; (have H0_ := A0_ H); clear H; (have hnb11 := NB253_254.out); (have hnc11 := NB254_253.out); (have hcz12_0 : w5.cell? ⟨gb253, 0, none⟩ = some (.int .i64 a0_0) := (blk_cell BK253.out 0).trans rfl); (have hcz12_1 : w5.cell? ⟨gb253, 1, none⟩ = some (.int .i64 a0_1) := (blk_cell BK253.out 1).trans rfl); (have hcz12_2 : w5.cell? ⟨gb253, 2, none⟩ = some (.int .i64 a0_2) := (blk_cell BK253.out 2).trans rfl); (have hfz12_0 := blk_frozen BK253.out 0); (have hfz12_1 := blk_frozen BK253.out 1); (have hfz12_2 := blk_frozen BK253.out 2); (have hcz13_0 : w5.cell? ⟨gb254, 0, none⟩ = some (.int .i64 a1_0) := (blk_cell BK254.out 0).trans rfl); (have hcz13_1 : w5.cell? ⟨gb254, 1, none⟩ = some (.int .i64 a1_1) := (blk_cell BK254.out 1).trans rfl); (have hcz13_2 : w5.cell? ⟨gb254, 2, none⟩ = some (.int .i64 a1_2) := (blk_cell BK254.out 2).trans rfl); (have hfz13_0 := blk_frozen BK254.out 0); (have hfz13_1 := blk_frozen BK254.out 1); (have hfz13_2 := blk_frozen BK254.out 2); (go_wp2_with (first | ((with_reducible refine gate_callee (f := 121) rfl ?_); refine goesL_ (some 24) rfl rfl Try.func121 (by kernel_rfl) rfl #[.agg #[.int .i64 a0_0, .int .i64 a0_1], .agg #[.int .i64 a1_0, .int .i64 a1_1]] rfl (by (try simp only [List.map_toArray, List.map_cons, List.map_nil]); first | done | rfl | (simp only [List.length_drop, List.length_take]; rfl)) ?_; (with_reducible refine (impl_compareCells.calls a0_0 a0_1 a1_0 a1_1 t256 _ A10.out).mono ?_); rintro e w14 ⟨rfl, hb⟩; refine ⟨_, rfl, ?_⟩; have n0_ := A0_ (blk_below (g := gb253) (o := .cells #[.int .i64 a0_0, .int .i64 a0_1, .int .i64 a0_2] 69 (0, 0)) (by (with_reducible repeat (first | apply gn_ | apply gd_ | apply ga_)); exact BK253.out) hb); have n1_ := A0_ (blk_below (g := gb254) (o := .cells #[.int .i64 a1_0, .int .i64 a1_1, .int .i64 a1_2] 69 (0, 0)) (by (with_reducible repeat (first | apply gn_ | apply gd_ | apply ga_)); exact BK254.out) hb); have n2_ := A0_ (below_step (by repeat (first | (with_reducible first | exact HB.out | apply ba_ | apply bn_ | apply bd_ | refine below_set ?_ GE253.out | refine below_set ?_ GE254.out) | exact HB.out)) hb); clear BK253; clear BK254; clear HB; have BK253 := n0_; have BK254 := n1_; have HB := n2_; clear n0_ n1_ n2_; (try clear hb); (try clear hb2); (try clear hk); (try clear hi); refine Stop0.out ?_))); (refine Stop0.mk ?_); (have H := H0_.out); clear H0_; (obtain rfl := Option.some.inj H); go_wp2; go_ret; (exact ⟨by first | rfl | (simp [errW_none, errW_some] <;> rfl) | (simp [*, errW_none, errW_some] <;> rfl), by repeat (first | (with_reducible first | exact HB.out | apply ba_ | apply bn_ | apply bd_ | refine below_set ?_ GE253.out | refine below_set ?_ GE254.out) | exact HB.out)⟩)
 ·(rw [if_neg c9] at H); (have c9b0 : (t255 == 0) = false := beq_eq_false_iff_ne.mpr c9); (have c9b1 : (t255 != 0) = true := bne_iff_ne.mpr c9); (obtain rfl := Option.some.inj H); go_wp2; go_ret; (exact ⟨by first | rfl | (simp [errW_none, errW_some] <;> rfl) | (simp [*, errW_none, errW_some] <;> rfl), by repeat (first | (with_reducible first | exact HB.out | apply ba_ | apply bn_ | apply bd_ | refine below_set ?_ GE253.out | refine below_set ?_ GE254.out) | exact HB.out)⟩)
end Go.Proofs.Ytlbckkagjekhnaa.A

/- Small functions of the program on cubes: what they answer. No program in sight. -/
namespace Go.Proofs.Ytlbckkagjekhnaa.A
open Go.RowKit Go.Proofs.YtlbckkagjekhnaaW.PrintWords Go.Proofs.YtlbckkagjekhnaaW.PrintLast Go.Proofs.YtlbckkagjekhnaaW.PrintMore
set_option linter.unusedVariables false
set_option linter.unusedSimpArgs false
theorem coord_eq (a : Int) : impl_isCoordinate.f a = some (inR a (-100) 100) := by
  unfold impl_isCoordinate.f
  rw [within_eq]
  rfl
theorem nan_eq (a : Int) : cmp_isNaN_int64.f a = some false := by
  unfold cmp_isNaN_int64.f
  simp
theorem cmp_eq (a b : Int) : cmp_Compare_int64.f a b = some (if a < b then -1 else if a = b then 0 else 1) := by
  unfold cmp_Compare_int64.f
  rw [nan_eq, nan_eq]
  by_cases h : a < b
  · simp [h]
  · by_cases e : a = b
    · subst e; simp
    · have : b < a := by omega
      simp [h, e, this]
theorem compare_eq (a b : Cb) : ∃ t : Int, impl_compareCubes.f a.f0 a.f1 a.f2 b.f0 b.f1 b.f2 = some t ∧ decide (t ≥ 0) = !lessC a b := by
  unfold impl_compareCubes.f impl_compareCells.f lessC
  simp only [cmp_eq, Option.bind_some]
  by_cases e2 : a.f2 = b.f2
  · rw [if_neg (show ¬ a.f2 < b.f2 by omega), if_pos e2, if_pos e2]
    by_cases e1 : a.f1 = b.f1
    · rw [if_neg (show ¬ a.f1 < b.f1 by omega), if_pos e1, if_pos e1]
      by_cases e0 : a.f0 < b.f0
      · refine ⟨-1, by simp [e0], ?_⟩
        rw [decide_eq_true e0]; rfl
      · by_cases e0' : a.f0 = b.f0
        · refine ⟨0, by simp [e0'], ?_⟩
          rw [decide_eq_false e0]; rfl
        · refine ⟨1, by simp [e0, e0'], ?_⟩
          rw [decide_eq_false e0]; rfl
    · by_cases c1 : a.f1 < b.f1
      · refine ⟨-1, by simp [c1], ?_⟩
        rw [if_neg e1, decide_eq_true c1]; rfl
      · refine ⟨1, by simp [c1, e1], ?_⟩
        rw [if_neg e1, decide_eq_false c1]; rfl
  · by_cases c2 : a.f2 < b.f2
    · refine ⟨-1, by simp [c2], ?_⟩
      rw [if_neg e2, decide_eq_true c2]; rfl
    · refine ⟨1, by simp [c2, e2], ?_⟩
      rw [if_neg e2, decide_eq_false c2]; rfl
end Go.Proofs.Ytlbckkagjekhnaa.A

/- A whole struct is stored into a block of one's own, over separate resources. -/
namespace Go.Proofs.YtlbckkagjekhnaaW.PrintMore
open Go.RowKit Go.Proofs.YtlbckkagjekhnaaW.PrintWords Go.Proofs.YtlbckkagjekhnaaW.PrintLast
set_option linter.unusedVariables false
theorem setCells_upd (g : Nat) : ∀ (vs : List Value) (o : Nat) (w : World) (cs : Array Value) (t : TypeId), w.heap[g]? = some (.cells cs t (0, 0)) → o + vs.length ≤ cs.size →
    ∃ cs' : Array Value, (w.setCells g o vs).heap[g]? = some (.cells cs' t (0, 0)) ∧ cs'.toList = cs.toList.take o ++ vs ++ cs.toList.drop (o + vs.length) ∧ (w.setCells g o vs).heap.size = w.heap.size
  | [], o, w, cs, t, h, hl => ⟨cs, h, by simp, rfl⟩
  | v :: r, o, w, cs, t, h, hl => by
    have hl' : o + (r.length + 1) ≤ cs.size := hl
    have h1 := blk_put (cs' := cs.setIfInBounds o v) h o v rfl
    obtain ⟨cs', h2, h3, h4⟩ := setCells_upd g r (o + 1) (w.setCell ⟨g, o, none⟩ v) _ t h1 (by simp; omega)
    refine ⟨cs', h2, ?_, h4.trans (by simp [World.setCell])⟩
    rw [h3]
    have hlen : o < cs.toList.length := by rw [Array.length_toList]; omega
    rw [show (cs.setIfInBounds o v).toList = cs.toList.set o v from Array.toList_setIfInBounds, List.length_cons, show o + 1 + r.length = o + (r.length + 1) from by omega]
    rw [List.take_succ_eq_append_getElem (by rw [List.length_set]; exact hlen), List.getElem_set_self, List.take_set_of_le (Nat.le_refl _), List.drop_set_of_lt (by omega)]
    simp
theorem setCells_rest (g : Nat) : ∀ (vs : List Value) (o : Nat) (w : World), (w.setCells g o vs).os = w.os ∧ (w.setCells g o vs).tape = w.tape ∧ (w.setCells g o vs).output = w.output
  | [], _, _ => ⟨rfl, rfl, rfl⟩
  | v :: r, o, w => setCells_rest g r (o + 1) (w.setCell ⟨g, o, none⟩ v)
theorem setCells_far (g k : Nat) (hne : k ≠ g) : ∀ (vs : List Value) (o : Nat) (w : World), (w.setCells g o vs).heap[k]? = w.heap[k]?
  | [], _, _ => rfl
  | v :: r, o, w => (setCells_far g k hne r (o + 1) (w.setCell ⟨g, o, none⟩ v)).trans (Below.heap_setCell w ⟨g, o, none⟩ v k (fun e => hne (by first | exact e | exact e.symm)))
section
variable {P : Program} {w0 w : World} {rs : List Res} {i g : Nat} {cs : Array Value} {t : TypeId}
theorem Sp.blkAll (h : Sp w0 rs w) (hi : rs[i]? = some (Res.blk g cs t)) (cs' : Array Value) (hl : cs'.size = cs.size) : Sp w0 (rs.set i (Res.blk g cs' t)) (w.setCells g 0 cs'.toList) := by
  obtain ⟨h1, _⟩ := Sp.blk h hi
  obtain ⟨c2, h2, h3, h4⟩ := setCells_upd g cs'.toList 0 w cs t h1 (by rw [Array.length_toList]; omega)
  have he : c2 = cs' := by
    apply Array.toList_inj.1
    rw [h3, Array.length_toList, Nat.zero_add, hl, ← Array.length_toList, List.drop_length]
    simp
  subst he
  refine h.upd (r' := Res.blk g c2 t) hi (fun fp hp hb => ⟨⟨(setCells_rest g _ 0 w).1, (setCells_rest g _ 0 w).2.1, (setCells_rest g _ 0 w).2.2, Nat.le_of_eq h4.symm, fun k hk hn => setCells_far g k (fun e => hn (e ▸ hp.1)) _ 0 w⟩, .inl hp.1, h2⟩)
theorem Sp.blkStore (h : Sp w0 rs w) (hi : rs[i]? = some (Res.blk g cs t)) (u : Value) (cs' : Array Value) (hl : cs'.size = cs.size) (hu : u.cells = cs') (ht : (P.info? t).map (·.size) = some cs'.size) (h1 : ∀ q ∈ cs'.toList, q.oneCell' = true) :
    (Instr.storeAt t (.pointer (some ⟨g, 0, none⟩)) u).run P w = .ok () (w.setCells g 0 cs'.toList) := by
  obtain ⟨h2, _⟩ := Sp.blk h hi
  exact run_store_run t u cs'.toList h2 (by rw [hu]) (by rw [ht, Array.length_toList]) (by rw [Array.length_toList]; omega) h1
end
end Go.Proofs.YtlbckkagjekhnaaW.PrintMore

/- HAND impl.isSolid (impl.isSolid) walked over separate resources; it stands in the place of a printed text. -/
namespace Go.Proofs.Ytlbckkagjekhnaa.A
open Go.RowKit Go.Proofs.YtlbckkagjekhnaaW.PrintWords Go.Proofs.YtlbckkagjekhnaaW.PrintLast Go.Proofs.YtlbckkagjekhnaaW.PrintMore
set_option linter.unusedVariables false
set_option linter.unusedSimpArgs false
def impl_isSolid.f (k : Nat) (l : List Cb) : Option Bool := if l.length ≤ 1048576 then some (solP l) else none
theorem compare_at (a b : Cb) : ∃ t : Int, impl_compareCubes.f a.f0 a.f1 a.f2 b.f0 b.f1 b.f2 = some t ∧ decide (t ≥ 0) = !lessC a b := compare_eq a b
def isoF.T4 : Bool × List (List Nat × List Nat) := (true, [([], []), ([0], [0]), ([1], [1]), ([2], [2]), ([3, 2], [3]), ([4], [4]), ([5, 4], [4, 5]), ([6, 4, 4], [4, 6]), ([7, 4], [4, 7]), ([4, 8], [4, 8]), ([9, 7], [9]), ([10], [10]), ([11, 10], [10, 11]), ([12, 10, 10], [10, 12]), ([13, 10], [10, 13]), ([10, 14], [10, 14]), ([15, 13], [15]), ([16], [16]), ([17, 16], [16, 17]), ([18, 16, 16], [16, 18]), ([19], [19]), ([19], [19]), ([21, 19], [19, 21]), ([20, 22, 19], [19, 20, 22]), ([23, 19], [19, 23]), ([19], [19]), ([24, 25, 19, 19], [19, 24, 25]), ([26, 19], [19, 26]), ([19, 27, 16], [16, 19, 27]), ([16, 28], [16, 28])])
def isoF.B4 : List Nat := [0, 1, 3, 7, 15, 31, 63, 127, 255, 511, 1023, 2047, 4095, 8191, 16383, 32767, 65535, 131071, 262143, 524287, 1048575, 1048575, 3145727, 8388607, 16777215, 1048575, 67108863, 134217727, 268435455, 536870911]
theorem isoF.tab4 : rtab .any (opsOf Try.f80 4) = isoF.T4 := by kernel_rfl
theorem isoF.bits4 : waitsOk isoF.T4.2 isoF.B4 = true := by kernel_rfl
set_option maxHeartbeats 4000000 in
set_option maxRecDepth 100000 in
theorem impl_isSolid.calls (k : Nat) (A0 : Option Addr) (c0 : Nat) (l : List Cb) (r : Bool) (w : World) (hr0 : Kd.C k69 w A0 l.length l) (hc0 : l.length ≤ c0) (h : impl_isSolid.f k l = some r) :
    Calls Try.prog 80 #[.slice A0 l.length c0] w fun e w' => e = .returned (.bool r) ∧ Below w.heap.size w w' := by
 (have hu69 := Try.underlying69); (unfold impl_isSolid.f at h); (split at h)
 case isFalse => cases h
 (rename_i hz); (obtain rfl := Option.some.inj h); (have HR0 := A0_ hr0); (have HZ := A0_ hz); (have HS := A0_ (Sp.start w)); clear hr0 hz h; (go_enter Try.func80, Try.ntmps80); go_wp2
 go_loopg [7] (l.length + 1) (fun kq v7 w' => ∃ (i : Nat), v7 = .int .i64 (i : Int) ∧ Aside0 (i ≤ l.length ∧ kq + i = l.length + 1 ∧ (List.range i).all (solStep l) = true) ∧ Aside0 (Sp w [] w'))
 case atStart => exact ⟨0, rfl, ⟨by omega, by omega, rfl⟩, HS⟩
 case round =>
  clear HS; (obtain ⟨i, rfl, HX, HS⟩ := hrel); (obtain ⟨k1, rfl⟩ : ∃ k1, gk = k1 + 1 := ⟨gk - 1, by have := HX.out; omega⟩); (by_cases ci : i < l.length)
  ·(have ci0 : decide (i < l.length) = true := decide_eq_true ci); (have q0 : (0 ≤ (i : Int)) = True := eq_true (by omega)); (have q1 : ((i : Int) < (l.length : Int)) = True := eq_true (by omega)); (have q2 : (i < l.length) = True := eq_true ci); (have HW := A0_ (wrap_succ i (by have := HZ.out; omega))); (have HNO := A0_ (solP_no l i ci)); (have HNX := A0_ (solP_next l i HX.out.2.2)); (obtain ⟨adl, e, hx0, hx1, hx2⟩ := at_T69 (Kd.C_below HR0.out HS.out.below) (i : Int) (by omega) (by omega)); subst e; (rw [show rd_T69 l (i : Int) = cAt l i from rfl] at hx0 hx1 hx2); (rw [Int.toNat_natCast] at hx0 hx1 hx2); (have hss : solStep l i = (inCb (cAt l i) (-100) 100 && (decide (i = 0) || lessC (cAt l (i - 1)) (cAt l i))) := rfl); (rw [hss] at HNO HNX); clear hss; (have HCI := A0_ ci); (obtain ⟨c, hc⟩ : ∃ c, c = cAt l i := ⟨_, rfl⟩); (rw [← hc] at hx0 hx1 hx2 HNO HNX); clear ci hc; go_wp2; (obtain ⟨gc, hg_⟩ : ∃ g_, g_ = (wr).heap.size := ⟨_, rfl⟩; obtain ⟨wx, hw_⟩ : ∃ w_, w_ = (wr).alloc (.cells #[.int .i64 c.f0, .int .i64 c.f1, .int .i64 c.f2] 69) := ⟨_, rfl⟩; (try rw [← hw_]); (try rw [← hg_]); have HS_ := A0_ (Sp.box HS.out #[.int .i64 c.f0, .int .i64 c.f1, .int .i64 c.f2] 69); rw [← hw_, ← hg_] at HS_; clear HS; have HS := HS_; clear HS_ hw_ hg_); (have HS_ := A0_ (show Sp w ([Res.blk gc #[.int .i64 c.f0, .int .i64 c.f1, .int .i64 c.f2] 69] ++ ([] : List Res)) wx.drew from Sp.drew HS.out)); clear HS hx0 hx1 hx2; (have HS := HS_); clear HS_
   cases b0 : inR c.f0 (-100) 100 with
   | false =>
    (have HB0 := A0_ ((coord_eq c.f0).trans (congrArg some b0))); (have HF := A0_ (HNO.out (by unfold inCb; rw [b0]; rfl))); clear HNO HNX b0
    refine start_ (n := 30) (S := fun w' => w'.cell? ⟨gc, 0, none⟩ = some (.int .i64 c.f0) ∧ w'.cell? ⟨gc, 1, none⟩ = some (.int .i64 c.f1) ∧ w'.cell? ⟨gc, 2, none⟩ = some (.int .i64 c.f2)) (ds := []) #[ff,ff,ff,ff,ff,ff,ff,ff,ff,ff,ff,ff,ff,ff,ff,ff,ff,ff,ff,ff,ff,ff,ff,ff,ff,ff,ff,ff,ff,ff] (by kernel_rfl) rfl rfl (⟨(blk_cell (Sp.blk HS.out (i := 0) rfl).1 0).trans rfl, (blk_cell (Sp.blk HS.out (i := 0) rfl).1 1).trans rfl, (blk_cell (Sp.blk HS.out (i := 0) rfl).1 2).trans rfl⟩) (fun hHeld => ?_)
    refine with_tabW isoF.tab4 isoF.bits4 (fun HT_ HW_ => ?_)
    (generalize wx.drew = wD at HS hHeld ⊢); (refine on_ 0 (some 12) ?_); (refine tk_ 1 (some 13) ?_)
    refine o1_ 2 (some 14) (fun K hK => ?_)
    (refine goes_ Try.func108 (by kernel_rfl) rfl #[.int .i64 c.f0] (by rfl) rfl rfl (by (try simp only [List.map_toArray, List.map_cons, List.map_nil]); first | done | rfl | (simp only [List.length_drop, List.length_take]; rfl)) ?_); (refine (impl_isCoordinate.calls c.f0 false _ HB0.out).mono ?_); (rintro e wA11 ⟨rfl, hb⟩); (refine ⟨_, rfl, ?_⟩); (have HS_ := A0_ (Sp.far HS.out hb.below)); clear HS; (have HS := HS_); clear HS_; clear hb
    refine hK.out _ _ (⟨(blk_cell (Sp.blk HS.out (i := 0) rfl).1 0).trans rfl, (blk_cell (Sp.blk HS.out (i := 0) rfl).1 1).trans rfl, (blk_cell (Sp.blk HS.out (i := 0) rfl).1 2).trans rfl⟩) (fun hHeld => ?_)
    clear hK K; (refine nm_ (some 14) ?_); (refine on_ 3 (some 15) ?_); (refine on_ 4 (some 16) ?_); (refine of_ 5 (some 17) ?_); (refine of_ 6 (some 18) ?_); (refine of_ 7 (some 19) ?_); (refine of_ 8 (some 20) ?_); (refine on_ 9 (some 21) ?_); (refine on_ 10 (some 22) ?_); (refine of_ 11 (some 23) ?_); (refine of_ 12 (some 24) ?_); (refine of_ 13 (some 25) ?_); (refine of_ 14 (some 26) ?_); (refine on_ 15 (some 27) ?_); (refine on_ 16 (some 28) ?_); (refine of_ 17 (some 29) ?_); (refine of_ 18 (some 30) ?_); (refine of_ 19 (some 31) ?_); (refine of_ 20 (some 32) ?_); (refine of_ 21 (some 33) ?_); (refine of_ 22 (some 34) ?_); (refine of_ 23 (some 35) ?_); (refine of_ 24 (some 36) ?_); (refine of_ 25 (some 37) ?_); (refine of_ 26 (some 38) ?_); (refine of_ 27 (some 39) ?_); (refine of_ 28 (some 40) ?_); (refine on_ 29 (some 41) ?_); (refine dn_ ?_); go_wp2; go_ret; (exact ⟨by rw [HF.out]; rfl, HS.out.below⟩)
   | true =>
    (have HB0 := A0_ ((coord_eq c.f0).trans (congrArg some b0)))
    cases b1 : inR c.f1 (-100) 100 with
    | false =>
     (have HB1 := A0_ ((coord_eq c.f1).trans (congrArg some b1))); (have HF := A0_ (HNO.out (by unfold inCb; rw [b0, b1]; rfl))); clear HNO HNX b0 b1
     refine start_ (n := 30) (S := fun w' => w'.cell? ⟨gc, 0, none⟩ = some (.int .i64 c.f0) ∧ w'.cell? ⟨gc, 1, none⟩ = some (.int .i64 c.f1) ∧ w'.cell? ⟨gc, 2, none⟩ = some (.int .i64 c.f2)) (ds := []) #[ff,ff,ff,ff,ff,ff,ff,ff,ff,ff,ff,ff,ff,ff,ff,ff,ff,ff,ff,ff,ff,ff,ff,ff,ff,ff,ff,ff,ff,ff] (by kernel_rfl) rfl rfl (⟨(blk_cell (Sp.blk HS.out (i := 0) rfl).1 0).trans rfl, (blk_cell (Sp.blk HS.out (i := 0) rfl).1 1).trans rfl, (blk_cell (Sp.blk HS.out (i := 0) rfl).1 2).trans rfl⟩) (fun hHeld => ?_)
     refine with_tabW isoF.tab4 isoF.bits4 (fun HT_ HW_ => ?_)
     (generalize wx.drew = wD at HS hHeld ⊢); (refine on_ 0 (some 12) ?_); (refine tk_ 1 (some 13) ?_)
     refine o1_ 2 (some 14) (fun K hK => ?_)
     (refine goes_ Try.func108 (by kernel_rfl) rfl #[.int .i64 c.f0] (by rfl) rfl rfl (by (try simp only [List.map_toArray, List.map_cons, List.map_nil]); first | done | rfl | (simp only [List.length_drop, List.length_take]; rfl)) ?_); (refine (impl_isCoordinate.calls c.f0 true _ HB0.out).mono ?_); (rintro e wA11 ⟨rfl, hb⟩); (refine ⟨_, rfl, ?_⟩); (have HS_ := A0_ (Sp.far HS.out hb.below)); clear HS; (have HS := HS_); clear HS_; clear hb
     refine hK.out _ _ (⟨(blk_cell (Sp.blk HS.out (i := 0) rfl).1 0).trans rfl, (blk_cell (Sp.blk HS.out (i := 0) rfl).1 1).trans rfl, (blk_cell (Sp.blk HS.out (i := 0) rfl).1 2).trans rfl⟩) (fun hHeld => ?_)
     clear hK K; (refine nm_ (some 14) ?_); (refine on_ 3 (some 15) ?_); (refine on_ 4 (some 16) ?_); (refine on_ 5 (some 17) ?_); (refine tk_ 6 (some 18) ?_)
     refine o1_ 7 (some 19) (fun K hK => ?_)
     (refine goes_ Try.func108 (by kernel_rfl) rfl #[.int .i64 c.f1] (by rfl) rfl rfl (by (try simp only [List.map_toArray, List.map_cons, List.map_nil]); first | done | rfl | (simp only [List.length_drop, List.length_take]; rfl)) ?_); (refine (impl_isCoordinate.calls c.f1 false _ HB1.out).mono ?_); (rintro e wA12 ⟨rfl, hb⟩); (refine ⟨_, rfl, ?_⟩); (have HS_ := A0_ (Sp.far HS.out hb.below)); clear HS; (have HS := HS_); clear HS_; clear hb
     refine hK.out _ _ (⟨(blk_cell (Sp.blk HS.out (i := 0) rfl).1 0).trans rfl, (blk_cell (Sp.blk HS.out (i := 0) rfl).1 1).trans rfl, (blk_cell (Sp.blk HS.out (i := 0) rfl).1 2).trans rfl⟩) (fun hHeld => ?_)
     clear hK K; (refine nm_ (some 19) ?_); (refine on_ 8 (some 20) ?_); (refine on_ 9 (some 21) ?_); (refine on_ 10 (some 22) ?_); (refine of_ 11 (some 23) ?_); (refine of_ 12 (some 24) ?_); (refine of_ 13 (some 25) ?_); (refine of_ 14 (some 26) ?_); (refine on_ 15 (some 27) ?_); (refine on_ 16 (some 28) ?_); (refine of_ 17 (some 29) ?_); (refine of_ 18 (some 30) ?_); (refine of_ 19 (some 31) ?_); (refine of_ 20 (some 32) ?_); (refine of_ 21 (some 33) ?_); (refine of_ 22 (some 34) ?_); (refine of_ 23 (some 35) ?_); (refine of_ 24 (some 36) ?_); (refine of_ 25 (some 37) ?_); (refine of_ 26 (some 38) ?_); (refine of_ 27 (some 39) ?_); (refine of_ 28 (some 40) ?_); (refine on_ 29 (some 41) ?_); (refine dn_ ?_); go_wp2; go_ret; (exact ⟨by rw [HF.out]; rfl, HS.out.below⟩)
    | true =>
     (have HB1 := A0_ ((coord_eq c.f1).trans (congrArg some b1)))
     cases b2 : inR c.f2 (-100) 100 with
     | false =>
      (have HB2 := A0_ ((coord_eq c.f2).trans (congrArg some b2))); (have HF := A0_ (HNO.out (by unfold inCb; rw [b0, b1, b2]; rfl))); clear HNO HNX b0 b1 b2
      refine start_ (n := 30) (S := fun w' => w'.cell? ⟨gc, 0, none⟩ = some (.int .i64 c.f0) ∧ w'.cell? ⟨gc, 1, none⟩ = some (.int .i64 c.f1) ∧ w'.cell? ⟨gc, 2, none⟩ = some (.int .i64 c.f2)) (ds := []) #[ff,ff,ff,ff,ff,ff,ff,ff,ff,ff,ff,ff,ff,ff,ff,ff,ff,ff,ff,ff,ff,ff,ff,ff,ff,ff,ff,ff,ff,ff] (by kernel_rfl) rfl rfl (⟨(blk_cell (Sp.blk HS.out (i := 0) rfl).1 0).trans rfl, (blk_cell (Sp.blk HS.out (i := 0) rfl).1 1).trans rfl, (blk_cell (Sp.blk HS.out (i := 0) rfl).1 2).trans rfl⟩) (fun hHeld => ?_)
      refine with_tabW isoF.tab4 isoF.bits4 (fun HT_ HW_ => ?_)
      (generalize wx.drew = wD at HS hHeld ⊢); (refine on_ 0 (some 12) ?_); (refine tk_ 1 (some 13) ?_)
      refine o1_ 2 (some 14) (fun K hK => ?_)
      (refine goes_ Try.func108 (by kernel_rfl) rfl #[.int .i64 c.f0] (by rfl) rfl rfl (by (try simp only [List.map_toArray, List.map_cons, List.map_nil]); first | done | rfl | (simp only [List.length_drop, List.length_take]; rfl)) ?_); (refine (impl_isCoordinate.calls c.f0 true _ HB0.out).mono ?_); (rintro e wA11 ⟨rfl, hb⟩); (refine ⟨_, rfl, ?_⟩); (have HS_ := A0_ (Sp.far HS.out hb.below)); clear HS; (have HS := HS_); clear HS_; clear hb
      refine hK.out _ _ (⟨(blk_cell (Sp.blk HS.out (i := 0) rfl).1 0).trans rfl, (blk_cell (Sp.blk HS.out (i := 0) rfl).1 1).trans rfl, (blk_cell (Sp.blk HS.out (i := 0) rfl).1 2).trans rfl⟩) (fun hHeld => ?_)
      clear hK K; (refine nm_ (some 14) ?_); (refine on_ 3 (some 15) ?_); (refine on_ 4 (some 16) ?_); (refine on_ 5 (some 17) ?_); (refine tk_ 6 (some 18) ?_)
      refine o1_ 7 (some 19) (fun K hK => ?_)
      (refine goes_ Try.func108 (by kernel_rfl) rfl #[.int .i64 c.f1] (by rfl) rfl rfl (by (try simp only [List.map_toArray, List.map_cons, List.map_nil]); first | done | rfl | (simp only [List.length_drop, List.length_take]; rfl)) ?_); (refine (impl_isCoordinate.calls c.f1 true _ HB1.out).mono ?_); (rintro e wA12 ⟨rfl, hb⟩); (refine ⟨_, rfl, ?_⟩); (have HS_ := A0_ (Sp.far HS.out hb.below)); clear HS; (have HS := HS_); clear HS_; clear hb
      refine hK.out _ _ (⟨(blk_cell (Sp.blk HS.out (i := 0) rfl).1 0).trans rfl, (blk_cell (Sp.blk HS.out (i := 0) rfl).1 1).trans rfl, (blk_cell (Sp.blk HS.out (i := 0) rfl).1 2).trans rfl⟩) (fun hHeld => ?_)
      clear hK K; (refine nm_ (some 19) ?_); (refine on_ 8 (some 20) ?_); (refine on_ 9 (some 21) ?_); (refine on_ 10 (some 22) ?_); (refine on_ 11 (some 23) ?_); (refine tk_ 12 (some 24) ?_)
      refine o1_ 13 (some 25) (fun K hK => ?_)
      (refine goes_ Try.func108 (by kernel_rfl) rfl #[.int .i64 c.f2] (by rfl) rfl rfl (by (try simp only [List.map_toArray, List.map_cons, List.map_nil]); first | done | rfl | (simp only [List.length_drop, List.length_take]; rfl)) ?_); (refine (impl_isCoordinate.calls c.f2 false _ HB2.out).mono ?_); (rintro e wA13 ⟨rfl, hb⟩); (refine ⟨_, rfl, ?_⟩); (have HS_ := A0_ (Sp.far HS.out hb.below)); clear HS; (have HS := HS_); clear HS_; clear hb
      refine hK.out _ _ (⟨(blk_cell (Sp.blk HS.out (i := 0) rfl).1 0).trans rfl, (blk_cell (Sp.blk HS.out (i := 0) rfl).1 1).trans rfl, (blk_cell (Sp.blk HS.out (i := 0) rfl).1 2).trans rfl⟩) (fun hHeld => ?_)
      clear hK K; (refine nm_ (some 25) ?_); (refine on_ 14 (some 26) ?_); (refine on_ 15 (some 27) ?_); (refine on_ 16 (some 28) ?_); (refine of_ 17 (some 29) ?_); (refine of_ 18 (some 30) ?_); (refine of_ 19 (some 31) ?_); (refine of_ 20 (some 32) ?_); (refine of_ 21 (some 33) ?_); (refine of_ 22 (some 34) ?_); (refine of_ 23 (some 35) ?_); (refine of_ 24 (some 36) ?_); (refine of_ 25 (some 37) ?_); (refine of_ 26 (some 38) ?_); (refine of_ 27 (some 39) ?_); (refine of_ 28 (some 40) ?_); (refine on_ 29 (some 41) ?_); (refine dn_ ?_); go_wp2; go_ret; (exact ⟨by rw [HF.out]; rfl, HS.out.below⟩)
     | true =>
      (have HB2 := A0_ ((coord_eq c.f2).trans (congrArg some b2))); (have hin : inCb c (-100) 100 = true := by unfold inCb; rw [b0, b1, b2]; rfl); (rw [hin, Bool.true_and] at HNO HNX); clear b0 b1 b2 hin; (by_cases hi0 : i = 0)
      ·subst hi0; (have HN := A0_ (HNX.out rfl)); clear HNO HNX
       refine start_ (n := 30) (S := fun w' => w'.cell? ⟨gc, 0, none⟩ = some (.int .i64 c.f0) ∧ w'.cell? ⟨gc, 1, none⟩ = some (.int .i64 c.f1) ∧ w'.cell? ⟨gc, 2, none⟩ = some (.int .i64 c.f2)) (ds := []) #[ff,ff,ff,ff,ff,ff,ff,ff,ff,ff,ff,ff,ff,ff,ff,ff,ff,ff,ff,ff,ff,ff,ff,ff,ff,ff,ff,ff,ff,ff] (by kernel_rfl) rfl rfl (⟨(blk_cell (Sp.blk HS.out (i := 0) rfl).1 0).trans rfl, (blk_cell (Sp.blk HS.out (i := 0) rfl).1 1).trans rfl, (blk_cell (Sp.blk HS.out (i := 0) rfl).1 2).trans rfl⟩) (fun hHeld => ?_)
       refine with_tabW isoF.tab4 isoF.bits4 (fun HT_ HW_ => ?_)
       (generalize wx.drew = wD at HS hHeld ⊢); (refine on_ 0 (some 12) ?_); (refine tk_ 1 (some 13) ?_)
       refine o1_ 2 (some 14) (fun K hK => ?_)
       (refine goes_ Try.func108 (by kernel_rfl) rfl #[.int .i64 c.f0] (by rfl) rfl rfl (by (try simp only [List.map_toArray, List.map_cons, List.map_nil]); first | done | rfl | (simp only [List.length_drop, List.length_take]; rfl)) ?_); (refine (impl_isCoordinate.calls c.f0 true _ HB0.out).mono ?_); (rintro e wA11 ⟨rfl, hb⟩); (refine ⟨_, rfl, ?_⟩); (have HS_ := A0_ (Sp.far HS.out hb.below)); clear HS; (have HS := HS_); clear HS_; clear hb
       refine hK.out _ _ (⟨(blk_cell (Sp.blk HS.out (i := 0) rfl).1 0).trans rfl, (blk_cell (Sp.blk HS.out (i := 0) rfl).1 1).trans rfl, (blk_cell (Sp.blk HS.out (i := 0) rfl).1 2).trans rfl⟩) (fun hHeld => ?_)
       clear hK K; (refine nm_ (some 14) ?_); (refine on_ 3 (some 15) ?_); (refine on_ 4 (some 16) ?_); (refine on_ 5 (some 17) ?_); (refine tk_ 6 (some 18) ?_)
       refine o1_ 7 (some 19) (fun K hK => ?_)
       (refine goes_ Try.func108 (by kernel_rfl) rfl #[.int .i64 c.f1] (by rfl) rfl rfl (by (try simp only [List.map_toArray, List.map_cons, List.map_nil]); first | done | rfl | (simp only [List.length_drop, List.length_take]; rfl)) ?_); (refine (impl_isCoordinate.calls c.f1 true _ HB1.out).mono ?_); (rintro e wA12 ⟨rfl, hb⟩); (refine ⟨_, rfl, ?_⟩); (have HS_ := A0_ (Sp.far HS.out hb.below)); clear HS; (have HS := HS_); clear HS_; clear hb
       refine hK.out _ _ (⟨(blk_cell (Sp.blk HS.out (i := 0) rfl).1 0).trans rfl, (blk_cell (Sp.blk HS.out (i := 0) rfl).1 1).trans rfl, (blk_cell (Sp.blk HS.out (i := 0) rfl).1 2).trans rfl⟩) (fun hHeld => ?_)
       clear hK K; (refine nm_ (some 19) ?_); (refine on_ 8 (some 20) ?_); (refine on_ 9 (some 21) ?_); (refine on_ 10 (some 22) ?_); (refine on_ 11 (some 23) ?_); (refine tk_ 12 (some 24) ?_)
       refine o1_ 13 (some 25) (fun K hK => ?_)
       (refine goes_ Try.func108 (by kernel_rfl) rfl #[.int .i64 c.f2] (by rfl) rfl rfl (by (try simp only [List.map_toArray, List.map_cons, List.map_nil]); first | done | rfl | (simp only [List.length_drop, List.length_take]; rfl)) ?_); (refine (impl_isCoordinate.calls c.f2 true _ HB2.out).mono ?_); (rintro e wA13 ⟨rfl, hb⟩); (refine ⟨_, rfl, ?_⟩); (have HS_ := A0_ (Sp.far HS.out hb.below)); clear HS; (have HS := HS_); clear HS_; clear hb
       refine hK.out _ _ (⟨(blk_cell (Sp.blk HS.out (i := 0) rfl).1 0).trans rfl, (blk_cell (Sp.blk HS.out (i := 0) rfl).1 1).trans rfl, (blk_cell (Sp.blk HS.out (i := 0) rfl).1 2).trans rfl⟩) (fun hHeld => ?_)
       clear hK K; (refine nm_ (some 25) ?_); (refine on_ 14 (some 26) ?_); (refine on_ 15 (some 27) ?_); (refine on_ 16 (some 28) ?_); (refine on_ 17 (some 29) ?_); (refine on_ 18 (some 30) ?_); (refine on_ 19 (some 31) ?_); (refine of_ 20 (some 32) ?_); (refine of_ 21 (some 33) ?_); (refine of_ 22 (some 34) ?_); (refine of_ 23 (some 35) ?_); (refine of_ 24 (some 36) ?_); (refine of_ 25 (some 37) ?_); (refine of_ 26 (some 38) ?_); (refine of_ 27 (some 39) ?_); (refine on_ 28 (some 40) ?_); (refine on_ 29 (some 41) ?_); (refine dn_ ?_); go_wp2; (have HS_ := A0_ (show Sp w [] _ from Sp.tail HS.out)); clear HS; (have HS := HS_); clear HS_; (go_roundg k1)
       case measure => omega
       case rel =>
        (exact ⟨1, rfl, ⟨by have := HCI.out; omega, by have := HX.out; omega, HN.out⟩, HS⟩)
      ·(have d0 : decide (0 < i) = true := decide_eq_true (by omega)); (have d1 : (0 < i) = True := eq_true (by omega)); (have d2 : decide ((0 : Int) < (i : Int)) = true := decide_eq_true (by omega)); (have d3 : ((0 : Int) < (i : Int)) = True := eq_true (by omega)); (have e1 : wrap64 ((i : Int) - 1) = ((i - 1 : Nat) : Int) := by rw [wrap_id (by omega) (by have := HZ.out; have := HCI.out; omega)]; omega); (have p0 : (0 ≤ ((i - 1 : Nat) : Int)) = True := eq_true (by omega)); (have p1 : (((i - 1 : Nat) : Int) < (l.length : Int)) = True := eq_true (by have := HCI.out; omega)); (have p2 : (i - 1 < l.length) = True := eq_true (by have := HCI.out; omega)); (rw [decide_eq_false hi0, Bool.false_or] at HNO HNX); (obtain ⟨ad2, e, hx0, hx1, hx2⟩ := at_T69 HR0.out ((i - 1 : Nat) : Int) (by omega) (by have := HCI.out; omega)); (injection e with e); subst e; (rw [show rd_T69 l ((i - 1 : Nat) : Int) = cAt l (i - 1) from rfl] at hx0 hx1 hx2); (rw [Int.toNat_natCast] at hx0 hx1 hx2); (obtain ⟨q, hq⟩ : ∃ q, q = cAt l (i - 1) := ⟨_, rfl⟩); (rw [← hq] at hx0 hx1 hx2 HNO HNX); (have HQ0 := A0_ hx0); (have HQ1 := A0_ hx1); (have HQ2 := A0_ hx2); (obtain ⟨t, ht, htl⟩ := compare_at q c); (have HCM := A0_ ht); (have HTL := A0_ htl); clear hx0 hx1 hx2 hq ht htl hi0
       refine start_ (n := 30) (S := fun w' => w'.cell? ⟨gc, 0, none⟩ = some (.int .i64 c.f0) ∧ w'.cell? ⟨gc, 1, none⟩ = some (.int .i64 c.f1) ∧ w'.cell? ⟨gc, 2, none⟩ = some (.int .i64 c.f2) ∧ w'.cell? (adl.add ((i - 1) * 3)) = some (.int .i64 q.f0) ∧ w'.cell? ⟨(adl.add ((i - 1) * 3)).block, (adl.add ((i - 1) * 3)).off + 1, none⟩ = some (.int .i64 q.f1) ∧ w'.cell? ⟨(adl.add ((i - 1) * 3)).block, (adl.add ((i - 1) * 3)).off + 2, none⟩ = some (.int .i64 q.f2)) (ds := []) #[ff,ff,ff,ff,ff,ff,ff,ff,ff,ff,ff,ff,ff,ff,ff,ff,ff,ff,ff,ff,ff,ff,ff,ff,ff,ff,ff,ff,ff,ff] (by kernel_rfl) rfl rfl (⟨(blk_cell (Sp.blk HS.out (i := 0) rfl).1 0).trans rfl, (blk_cell (Sp.blk HS.out (i := 0) rfl).1 1).trans rfl, (blk_cell (Sp.blk HS.out (i := 0) rfl).1 2).trans rfl, pw_cell_below HS.out.below HQ0.out, pw_cell_below HS.out.below HQ1.out, pw_cell_below HS.out.below HQ2.out⟩) (fun hHeld => ?_)
       refine with_tabW isoF.tab4 isoF.bits4 (fun HT_ HW_ => ?_)
       (generalize wx.drew = wD at HS hHeld ⊢); (refine on_ 0 (some 12) ?_); (refine tk_ 1 (some 13) ?_)
       refine o1_ 2 (some 14) (fun K hK => ?_)
       (refine goes_ Try.func108 (by kernel_rfl) rfl #[.int .i64 c.f0] (by rfl) rfl rfl (by (try simp only [List.map_toArray, List.map_cons, List.map_nil]); first | done | rfl | (simp only [List.length_drop, List.length_take]; rfl)) ?_); (refine (impl_isCoordinate.calls c.f0 true _ HB0.out).mono ?_); (rintro e wA11 ⟨rfl, hb⟩); (refine ⟨_, rfl, ?_⟩); (have HS_ := A0_ (Sp.far HS.out hb.below)); clear HS; (have HS := HS_); clear HS_; clear hb
       refine hK.out _ _ (⟨(blk_cell (Sp.blk HS.out (i := 0) rfl).1 0).trans rfl, (blk_cell (Sp.blk HS.out (i := 0) rfl).1 1).trans rfl, (blk_cell (Sp.blk HS.out (i := 0) rfl).1 2).trans rfl, pw_cell_below HS.out.below HQ0.out, pw_cell_below HS.out.below HQ1.out, pw_cell_below HS.out.below HQ2.out⟩) (fun hHeld => ?_)
       clear hK K; (refine nm_ (some 14) ?_); (refine on_ 3 (some 15) ?_); (refine on_ 4 (some 16) ?_); (refine on_ 5 (some 17) ?_); (refine tk_ 6 (some 18) ?_)
       refine o1_ 7 (some 19) (fun K hK => ?_)
       (refine goes_ Try.func108 (by kernel_rfl) rfl #[.int .i64 c.f1] (by rfl) rfl rfl (by (try simp only [List.map_toArray, List.map_cons, List.map_nil]); first | done | rfl | (simp only [List.length_drop, List.length_take]; rfl)) ?_); (refine (impl_isCoordinate.calls c.f1 true _ HB1.out).mono ?_); (rintro e wA12 ⟨rfl, hb⟩); (refine ⟨_, rfl, ?_⟩); (have HS_ := A0_ (Sp.far HS.out hb.below)); clear HS; (have HS := HS_); clear HS_; clear hb
       refine hK.out _ _ (⟨(blk_cell (Sp.blk HS.out (i := 0) rfl).1 0).trans rfl, (blk_cell (Sp.blk HS.out (i := 0) rfl).1 1).trans rfl, (blk_cell (Sp.blk HS.out (i := 0) rfl).1 2).trans rfl, pw_cell_below HS.out.below HQ0.out, pw_cell_below HS.out.below HQ1.out, pw_cell_below HS.out.below HQ2.out⟩) (fun hHeld => ?_)
       clear hK K; (refine nm_ (some 19) ?_); (refine on_ 8 (some 20) ?_); (refine on_ 9 (some 21) ?_); (refine on_ 10 (some 22) ?_); (refine on_ 11 (some 23) ?_); (refine tk_ 12 (some 24) ?_)
       refine o1_ 13 (some 25) (fun K hK => ?_)
       (refine goes_ Try.func108 (by kernel_rfl) rfl #[.int .i64 c.f2] (by rfl) rfl rfl (by (try simp only [List.map_toArray, List.map_cons, List.map_nil]); first | done | rfl | (simp only [List.length_drop, List.length_take]; rfl)) ?_); (refine (impl_isCoordinate.calls c.f2 true _ HB2.out).mono ?_); (rintro e wA13 ⟨rfl, hb⟩); (refine ⟨_, rfl, ?_⟩); (have HS_ := A0_ (Sp.far HS.out hb.below)); clear HS; (have HS := HS_); clear HS_; clear hb
       refine hK.out _ _ (⟨(blk_cell (Sp.blk HS.out (i := 0) rfl).1 0).trans rfl, (blk_cell (Sp.blk HS.out (i := 0) rfl).1 1).trans rfl, (blk_cell (Sp.blk HS.out (i := 0) rfl).1 2).trans rfl, pw_cell_below HS.out.below HQ0.out, pw_cell_below HS.out.below HQ1.out, pw_cell_below HS.out.below HQ2.out⟩) (fun hHeld => ?_)
       clear hK K; (refine nm_ (some 25) ?_); (refine on_ 14 (some 26) ?_); (refine on_ 15 (some 27) ?_); (refine on_ 16 (some 28) ?_); (refine on_ 17 (some 29) ?_); (refine on_ 18 (some 30) ?_); (refine on_ 19 (some 31) ?_); (refine on_ 20 (some 32) ?_); (refine on_ 21 (some 33) ?_); (refine on_ 22 (some 34) ?_); (refine on_ 23 (some 35) ?_); (refine tk_ 24 (some 36) ?_); (refine tk_ 25 (some 37) ?_)
       refine o1_ 26 (some 38) (fun K hK => ?_)
       (refine goes_ Try.func109 (by kernel_rfl) rfl #[.agg #[.int .i64 q.f0, .int .i64 q.f1, .int .i64 q.f2], .agg #[.int .i64 c.f0, .int .i64 c.f1, .int .i64 c.f2]] (by rfl) rfl rfl (by (try simp only [List.map_toArray, List.map_cons, List.map_nil]); first | done | rfl | (simp only [List.length_drop, List.length_take]; rfl)) ?_); (refine (impl_compareCubes.calls q.f0 q.f1 q.f2 c.f0 c.f1 c.f2 t _ HCM.out).mono ?_); (rintro e wA14 ⟨rfl, hb⟩); (refine ⟨_, rfl, ?_⟩); (have HS_ := A0_ (Sp.far HS.out hb)); clear HS; (have HS := HS_); clear HS_; clear hb
       refine hK.out _ _ (⟨(blk_cell (Sp.blk HS.out (i := 0) rfl).1 0).trans rfl, (blk_cell (Sp.blk HS.out (i := 0) rfl).1 1).trans rfl, (blk_cell (Sp.blk HS.out (i := 0) rfl).1 2).trans rfl, pw_cell_below HS.out.below HQ0.out, pw_cell_below HS.out.below HQ1.out, pw_cell_below HS.out.below HQ2.out⟩) (fun hHeld => ?_)
       clear hK K; (refine nm_ (some 38) ?_); (refine on_ 27 (some 39) ?_); (refine on_ 28 (some 40) ?_); (refine on_ 29 (some 41) ?_); (refine dn_ ?_)
       cases hls : lessC q c with
       | true =>
        (have HN := A0_ (HNX.out hls)); (have ht0 : decide (0 ≤ t) = false := by have h := HTL.out; rw [hls] at h; exact h); (have ht1 : (0 ≤ t) = False := eq_false (of_decide_eq_false ht0)); (have ht2 : (t < 0) = True := eq_true (by have := of_decide_eq_false ht0; omega)); clear hls; (rw [ht0]); go_wp2; (have HS_ := A0_ (show Sp w [] _ from Sp.tail HS.out)); clear HS; (have HS := HS_); clear HS_; (go_roundg k1)
        case measure => omega
        case rel =>
         (rw [HW.out]); (exact ⟨i + 1, rfl, ⟨by have := HCI.out; omega, by have := HX.out; omega, HN.out⟩, HS⟩)
       | false =>
        (have HF := A0_ (HNO.out hls)); (have ht0 : decide (0 ≤ t) = true := by have h := HTL.out; rw [hls] at h; exact h); (have ht1 : (0 ≤ t) = True := eq_true (of_decide_eq_true ht0)); (have ht2 : (t < 0) = False := eq_false (by have := of_decide_eq_true ht0; omega)); clear hls; (rw [ht0]); go_wp2; go_ret; (exact ⟨by rw [HF.out]; rfl, HS.out.below⟩)
  ·(have ci0 : decide (i < l.length) = false := decide_eq_false ci); (have ci1 : (i < l.length) = False := eq_false ci); (have hi : i = l.length := by have := HX.out; omega); (have HF := A0_ (solP_end l (hi ▸ HX.out.2.2))); (have HF2 := A0_ (inR_len l.length)); clear ci hi; go_wp2
   ·go_ret; (exact ⟨by rw [HF.out]; unfold inR; rw [decide_eq_true (show (1 : Int) ≤ (l.length : Int) by omega), Bool.true_and]; rfl, HS.out.below⟩)
   ·go_ret; (exact ⟨by rw [HF.out]; unfold inR; rw [decide_eq_false (show ¬ (1 : Int) ≤ (l.length : Int) by omega), Bool.false_and]; rfl, HS.out.below⟩)
end Go.Proofs.Ytlbckkagjekhnaa.A

namespace Go.Proofs.Ytlbckkagjekhnaa.A
open Go.RowKit Go.Proofs.YtlbckkagjekhnaaW.PrintWords Go.Proofs.YtlbckkagjekhnaaW.PrintLast Go.Proofs.YtlbckkagjekhnaaW.PrintMore
attribute [local go_sem] max2_int min2_int max_two min_two max_three min_three max_four min_four   -- for this text's walks alone
set_option linter.unusedVariables false
set_option linter.unusedSimpArgs false
def impl_cubesAround.f (a0_0 : Int) (a0_1 : Int) (a0_2 : Int) : Option ((List (S69))) := some (([(⟨a0_0, a0_1, wrap64 (a0_2 - 1)⟩ : S69), (⟨a0_0, wrap64 (a0_1 - 1), a0_2⟩ : S69), (⟨wrap64 (a0_0 - 1), a0_1, a0_2⟩ : S69), (⟨wrap64 (a0_0 + 1), a0_1, a0_2⟩ : S69), (⟨a0_0, wrap64 (a0_1 + 1), a0_2⟩ : S69), (⟨a0_0, a0_1, wrap64 (a0_2 + 1)⟩ : S69)] : List (S69)))
set_option maxHeartbeats 8000000 in
set_option maxRecDepth 100000 in
theorem impl_cubesAround.calls (a0_0 : Int) (a0_1 : Int) (a0_2 : Int) (r : List (S69)) (w : World) (h : impl_cubesAround.f a0_0 a0_1 a0_2 = some r) :
    Calls Try.prog 110 #[.agg #[.int .i64 a0_0, .int .i64 a0_1, .int .i64 a0_2]] w fun e w' => ∃ v0_ : Value, e = .returned (v0_) ∧ Kd.R k69 69 w' w.heap.size (fun _ => True) v0_ r ∧ Below w.heap.size w w' := by
 (have hu69 := Try.underlying69); (have HB := A0_ (Below.refl w.heap.size w)); (have H : (some (([(⟨a0_0, a0_1, wrap64 (a0_2 - 1)⟩ : S69), (⟨a0_0, wrap64 (a0_1 - 1), a0_2⟩ : S69), (⟨wrap64 (a0_0 - 1), a0_1, a0_2⟩ : S69), (⟨wrap64 (a0_0 + 1), a0_1, a0_2⟩ : S69), (⟨a0_0, wrap64 (a0_1 + 1), a0_2⟩ : S69), (⟨a0_0, a0_1, wrap64 (a0_2 + 1)⟩ : S69)] : List (S69)))) = some r := h); clear h; (obtain ⟨y265, hy265⟩ : ∃ y_ : List (S69), y_ = (([(⟨a0_0, a0_1, wrap64 (a0_2 - 1)⟩ : S69), (⟨a0_0, wrap64 (a0_1 - 1), a0_2⟩ : S69), (⟨wrap64 (a0_0 - 1), a0_1, a0_2⟩ : S69), (⟨wrap64 (a0_0 + 1), a0_1, a0_2⟩ : S69), (⟨a0_0, wrap64 (a0_1 + 1), a0_2⟩ : S69), (⟨a0_0, a0_1, wrap64 (a0_2 + 1)⟩ : S69)] : List (S69))) := ⟨_, rfl⟩); (replace H : (some y265) = some r := by first | (rw [hy265]; with_reducible exact H) | (have H2_ := (Option.bind_some _ _).symm.trans H; rw [hy265]; with_reducible exact H2_) | (have H2_ := (Option.bind_some _ _).symm.trans H; with_reducible exact H2_) | with_reducible exact H | (rw [hy265]; exact H) | exact H); (have Ny265 := A0_ hy265); clear hy265; (obtain rfl := Option.some.inj H); (go_enter Try.func110, Try.ntmps110)
 go_wp2_with (first | ((with_reducible refine gate_dst (N := 1) rfl ?_); refine box_event ?hg (N := 1) ?hd (cs := #[.int .i64 a0_0, .int .i64 a0_1, .int .i64 a0_2]) (t := 69) ?hr ?_; (case hd => rfl); (case hg => rfl); (case hr => first | (go_simp; done) | (go_simp; rfl)); intro gb264 hg w2 hbox hb; have n0_ := A0_ (below_step (by repeat (first | (with_reducible first | exact HB.out | apply ba_ | apply bn_ | apply bd_) | exact HB.out)) hb); have n1_ := A0_ (hbox); have n2_ := A0_ ((by rw [hg]; exact (below_size (by repeat (first | (with_reducible first | exact HB.out | apply ba_ | apply bn_ | apply bd_) | exact HB.out))) : w.heap.size ≤ gb264)); have n3_ := A0_ ((by rw [hg]; exact (below_size (by repeat (first | (with_reducible first | exact HB.out | apply ba_ | apply bn_ | apply bd_) | exact HB.out))) : w.heap.size ≤ gb264)); clear HB; have HB := n0_; have BK264 := n1_; have GW264 := n2_; have GE264 := n3_; clear n0_ n1_ n2_ n3_; clear hb hbox hg; have hcz3_0 : w2.cell? ⟨gb264, 0, none⟩ = some (.int .i64 a0_0) := (blk_cell BK264.out 0).trans rfl; have hcz3_1 : w2.cell? ⟨gb264, 1, none⟩ = some (.int .i64 a0_1) := (blk_cell BK264.out 1).trans rfl; have hcz3_2 : w2.cell? ⟨gb264, 2, none⟩ = some (.int .i64 a0_2) := (blk_cell BK264.out 2).trans rfl; have hfz3_0 := blk_frozen BK264.out 0; have hfz3_1 := blk_frozen BK264.out 1; have hfz3_2 := blk_frozen BK264.out 2) | ((with_reducible refine gate_dst (N := 51) rfl ?_); refine Kd.R_lit k69 _ 69 ?hg (N := 51) ?hd (xs := ([(⟨a0_0, a0_1, wrap64 (a0_2 - 1)⟩ : S69), (⟨a0_0, wrap64 (a0_1 - 1), a0_2⟩ : S69), (⟨wrap64 (a0_0 - 1), a0_1, a0_2⟩ : S69), (⟨wrap64 (a0_0 + 1), a0_1, a0_2⟩ : S69), (⟨a0_0, wrap64 (a0_1 + 1), a0_2⟩ : S69), (⟨a0_0, a0_1, wrap64 (a0_2 + 1)⟩ : S69)] : List (S69))) (inner := [.int .i64 a0_0, .int .i64 a0_1, .int .i64 (wrap64 (a0_2 - 1)), .int .i64 a0_0, .int .i64 (wrap64 (a0_1 - 1)), .int .i64 a0_2, .int .i64 (wrap64 (a0_0 - 1)), .int .i64 a0_1, .int .i64 a0_2, .int .i64 (wrap64 (a0_0 + 1)), .int .i64 a0_1, .int .i64 a0_2, .int .i64 a0_0, .int .i64 (wrap64 (a0_1 + 1)), .int .i64 a0_2, .int .i64 a0_0, .int .i64 a0_1, .int .i64 (wrap64 (a0_2 + 1))]) (ok := fun _ => True) (okp := fun _ => True) ?hr ?hp (fun _ hk => hk) trivial (Below.refl _ _) (Nat.le_refl _) (by simp) ?_; (case hd => rfl); (case hg => rfl); (case hr => first | (go_simp; done) | (go_simp; rfl)); (case hp => exact (Reps.c3 (show Kd.M k69 _ _ _ (⟨a0_0, a0_1, wrap64 (a0_2 - 1)⟩ : S69) [.int .i64 a0_0, .int .i64 a0_1, .int .i64 (wrap64 (a0_2 - 1))] from (k69_mkM _ _ _ (⟨a0_0, a0_1, wrap64 (a0_2 - 1)⟩ : S69) )) (Reps.c3 (show Kd.M k69 _ _ _ (⟨a0_0, wrap64 (a0_1 - 1), a0_2⟩ : S69) [.int .i64 a0_0, .int .i64 (wrap64 (a0_1 - 1)), .int .i64 a0_2] from (k69_mkM _ _ _ (⟨a0_0, wrap64 (a0_1 - 1), a0_2⟩ : S69) )) (Reps.c3 (show Kd.M k69 _ _ _ (⟨wrap64 (a0_0 - 1), a0_1, a0_2⟩ : S69) [.int .i64 (wrap64 (a0_0 - 1)), .int .i64 a0_1, .int .i64 a0_2] from (k69_mkM _ _ _ (⟨wrap64 (a0_0 - 1), a0_1, a0_2⟩ : S69) )) (Reps.c3 (show Kd.M k69 _ _ _ (⟨wrap64 (a0_0 + 1), a0_1, a0_2⟩ : S69) [.int .i64 (wrap64 (a0_0 + 1)), .int .i64 a0_1, .int .i64 a0_2] from (k69_mkM _ _ _ (⟨wrap64 (a0_0 + 1), a0_1, a0_2⟩ : S69) )) (Reps.c3 (show Kd.M k69 _ _ _ (⟨a0_0, wrap64 (a0_1 + 1), a0_2⟩ : S69) [.int .i64 a0_0, .int .i64 (wrap64 (a0_1 + 1)), .int .i64 a0_2] from (k69_mkM _ _ _ (⟨a0_0, wrap64 (a0_1 + 1), a0_2⟩ : S69) )) (Reps.c3 (show Kd.M k69 _ _ _ (⟨a0_0, a0_1, wrap64 (a0_2 + 1)⟩ : S69) [.int .i64 a0_0, .int .i64 a0_1, .int .i64 (wrap64 (a0_2 + 1))] from (k69_mkM _ _ _ (⟨a0_0, a0_1, wrap64 (a0_2 + 1)⟩ : S69) )) (Reps.none _ _)))))))); intro v266 w4 ho5 hb hg_ hnew_; clear hg_ hnew_; (first | rw [← Ny265.out] at ho5 | (simp only [Int.reduceToNat] at ho5; rw [← Ny265.out] at ho5)); have n0_ := A0_ (Kd.R_lower (Kd.R_newB ho5 (g := gb264) (o := .cells #[.int .i64 a0_0, .int .i64 a0_1, .int .i64 a0_2] 69 (0, 0)) (by (with_reducible repeat (first | apply gn_ | apply gd_ | apply ga_)); exact BK264.out)) (below_size (by repeat (first | (with_reducible first | exact HB.out | apply ba_ | apply bn_ | apply bd_ | refine below_set ?_ GE264.out) | exact HB.out)))); have n1_ := A0_ (blk_below (g := gb264) (o := .cells #[.int .i64 a0_0, .int .i64 a0_1, .int .i64 a0_2] 69 (0, 0)) (by (with_reducible repeat (first | apply gn_ | apply gd_ | apply ga_)); exact BK264.out) hb); have n2_ := A0_ (below_step (by repeat (first | (with_reducible first | exact HB.out | apply ba_ | apply bn_ | apply bd_ | refine below_set ?_ GE264.out) | exact HB.out)) hb); clear BK264; clear HB; have HO267 := n0_; have BK264 := n1_; have HB := n2_; clear n0_ n1_ n2_; clear hb ho5))
 go_ret
 exact ⟨_, by first | rfl | (simp [errW_none, errW_some] <;> rfl) | (simp [*, errW_none, errW_some] <;> rfl), by (with_reducible repeat (first | apply Ra_ | apply Rn_ | apply Rd_)); exact Kd.R_mono HO267.out (fun _ hk => trivial), by repeat (first | (with_reducible first | exact HB.out | apply ba_ | apply bn_ | apply bd_ | refine below_set ?_ GE264.out) | exact HB.out)⟩
end Go.Proofs.Ytlbckkagjekhnaa.A

namespace Go.Proofs.Ytlbckkagjekhnaa.A
open Go.RowKit Go.Proofs.YtlbckkagjekhnaaW.PrintWords Go.Proofs.YtlbckkagjekhnaaW.PrintLast Go.Proofs.YtlbckkagjekhnaaW.PrintMore
attribute [local go_sem] max2_int min2_int max_two min_two max_three min_three max_four min_four   -- for this text's walks alone
set_option linter.unusedVariables false
set_option linter.unusedSimpArgs false
mutual
def impl_connectedCubes.l0 : Nat → List (S69) → List (S69) → Int → Option (Bool)
  | 0, _, _, _ => none
  | k + 1, x0, x3, x4 => if x4 < (x3.length : Int) then (if 0 ≤ x4 then ((impl_cubesAround.f ((rd_T69 x3 x4).f0) ((rd_T69 x3 x4).f1) ((rd_T69 x3 x4).f2)).bind fun t277 => (impl_connectedCubes.l1 k x0 x3 x4 t277 (t277.length : Int) 0)) else (none)) else (some ((x3.length : Int) == (x0.length : Int)))
def impl_connectedCubes.l1 : Nat → List (S69) → List (S69) → Int → List (S69) → Int → Int → Option (Bool)
  | 0, _, _, _, _, _, _ => none
  | k + 1, x0, x3, x4, x21, x22, x23 => if x23 < x22 then (if 0 ≤ x23 then (if x23 < (x21.length : Int) then ((impl_Cube_111.f k x0 ((rd_T69 x21 x23).f0) ((rd_T69 x21 x23).f1) ((rd_T69 x21 x23).f2)).bind fun t282 => (if t282 = true then ((impl_Cube_111.f k x3 ((rd_T69 x21 x23).f0) ((rd_T69 x21 x23).f1) ((rd_T69 x21 x23).f2)).bind fun t283 => (if t283 = true then (impl_connectedCubes.l1 k x0 x3 x4 x21 x22 (wrap64 (x23 + 1))) else (if x3.length < 5864062014805 then (impl_connectedCubes.l1 k x0 (x3 ++ [(⟨(rd_T69 x21 x23).f0, (rd_T69 x21 x23).f1, (rd_T69 x21 x23).f2⟩ : S69)]) x4 x21 x22 (wrap64 (x23 + 1))) else (none)))) else (impl_connectedCubes.l1 k x0 x3 x4 x21 x22 (wrap64 (x23 + 1))))) else (none)) else (none)) else (impl_connectedCubes.l0 k x0 x3 (wrap64 (x4 + 1)))
end
def impl_connectedCubes.f (k : Nat) (l0 : List (S69)) : Option (Bool) := if 0 < (l0.length : Int) then (impl_connectedCubes.l0 k l0 (([(⟨(rd_T69 l0 0).f0, (rd_T69 l0 0).f1, (rd_T69 l0 0).f2⟩ : S69)] : List (S69))) 0) else (none)
set_option maxHeartbeats 8000000 in
set_option maxRecDepth 100000 in
theorem impl_connectedCubes.calls (k : Nat) (A0 : Option Addr) (c0 : Nat) (l0 : List (S69)) (r : Bool) (w : World) (hr0 : Kd.C k69 w A0 l0.length l0) (hc0 : l0.length ≤ c0) (h : impl_connectedCubes.f k l0 = some r) :
    Calls Try.prog 81 #[.slice A0 l0.length c0] w fun e w' => e = .returned (.bool r) ∧ Below w.heap.size w w' := by
 (have hu69 := Try.underlying69); (have HR0 := A0_ hr0); (have HC0 := A0_ hc0); clear hr0 hc0; (have HB := A0_ (Below.refl w.heap.size w)); (have H : (if 0 < (l0.length : Int) then (impl_connectedCubes.l0 k l0 (([(⟨(rd_T69 l0 0).f0, (rd_T69 l0 0).f1, (rd_T69 l0 0).f2⟩ : S69)] : List (S69))) 0) else (none)) = some r := h); clear h; (by_cases c2 : 0 < (l0.length : Int))
 ·(rw [if_pos c2] at H); (have c2b0 : decide (0 < (l0.length : Int)) = true := decide_eq_true c2); (have c2b1 : decide (0 < l0.length) = true := decide_eq_true (by omega)); clear c2; (obtain ⟨y273, hy273⟩ : ∃ y_ : List (S69), y_ = (([(⟨(rd_T69 l0 0).f0, (rd_T69 l0 0).f1, (rd_T69 l0 0).f2⟩ : S69)] : List (S69))) := ⟨_, rfl⟩); (replace H : (impl_connectedCubes.l0 k l0 y273 0) = some r := by first | (rw [hy273]; with_reducible exact H) | (have H2_ := (Option.bind_some _ _).symm.trans H; rw [hy273]; with_reducible exact H2_) | (have H2_ := (Option.bind_some _ _).symm.trans H; with_reducible exact H2_) | with_reducible exact H | (rw [hy273]; exact H) | exact H); (have Ny273 := A0_ hy273); clear hy273; (have H' := A0_ H); clear H; (have p272 : 0 ≤ (0 : Int) := (by omega)); (have q272 : 0 < (l0.length : Int) := of_decide_eq_true (by first | (with_reducible assumption) | assumption)); (obtain ⟨ad272, e272, hx272_0, hx272_1, hx272_2⟩ := at_T69 HR0.out 0 p272 q272); (cases e272); (have qi272 : (0 < l0.length) = True := eq_true (by omega)); ((try rw [show ((0 : Int)).toNat = 0 from rfl] at hx272_0)); ((try rw [show 0 * 3 = 0 from rfl] at hx272_0)); ((try rw [Addr.add_zero'] at hx272_0)); ((try rw [show ((0 : Int)).toNat = 0 from rfl] at hx272_1)); ((try rw [show 0 * 3 = 0 from rfl] at hx272_1)); ((try rw [Addr.add_zero'] at hx272_1)); ((try rw [show ((0 : Int)).toNat = 0 from rfl] at hx272_2)); ((try rw [show 0 * 3 = 0 from rfl] at hx272_2)); ((try rw [Addr.add_zero'] at hx272_2)); (replace p272 := eq_true p272); (replace q272 := eq_true q272); (go_enter Try.func81, Try.ntmps81)
  go_wp2_with (first | ((with_reducible refine gate_dst (N := 10) rfl ?_); refine Kd.R_lit k69 _ 69 ?hg (N := 10) ?hd (xs := ([(⟨(rd_T69 l0 0).f0, (rd_T69 l0 0).f1, (rd_T69 l0 0).f2⟩ : S69)] : List (S69))) (inner := [.int .i64 ((rd_T69 l0 0).f0), .int .i64 ((rd_T69 l0 0).f1), .int .i64 ((rd_T69 l0 0).f2)]) (ok := fun _ => True) (okp := fun _ => True) ?hr ?hp (fun _ hk => hk) trivial (Below.refl _ _) (Nat.le_refl _) (by simp) ?_; (case hd => rfl); (case hg => rfl); (case hr => first | (go_simp; done) | (go_simp; rfl)); (case hp => exact (Reps.c3 (show Kd.M k69 _ _ _ (⟨(rd_T69 l0 0).f0, (rd_T69 l0 0).f1, (rd_T69 l0 0).f2⟩ : S69) [.int .i64 ((rd_T69 l0 0).f0), .int .i64 ((rd_T69 l0 0).f1), .int .i64 ((rd_T69 l0 0).f2)] from (k69_mkM _ _ _ (⟨(rd_T69 l0 0).f0, (rd_T69 l0 0).f1, (rd_T69 l0 0).f2⟩ : S69) )) (Reps.none _ _))); intro v274 w3 ho4 hb hg_ hnew_; clear hg_ hnew_; (first | rw [← Ny273.out] at ho4 | (simp only [Int.reduceToNat] at ho4; rw [← Ny273.out] at ho4)); have n0_ := A0_ (Kd.R_lower ho4 (below_size (by repeat (first | (with_reducible first | exact HB.out | apply ba_ | apply bn_ | apply bd_) | exact HB.out)))); have n1_ := A0_ (below_step (by repeat (first | (with_reducible first | exact HB.out | apply ba_ | apply bn_ | apply bd_) | exact HB.out)) hb); clear HB; have HO275 := n0_; have HB := n1_; clear n0_ n1_; clear hb ho4))
  go_loopg [3, 4] k (fun kq v3 v4 w' => ∃ (x3_1 : List (S69)) (x4_1 : Int), v4 = .int .i64 x4_1 ∧ Aside0 (impl_connectedCubes.l0 kq l0 x3_1 x4_1 = some r) ∧ Aside0 (kq ≤ k) ∧ Aside0 (Kd.R k69 69 w' w.heap.size (fun _ => True) v3 x3_1) ∧ Aside0 (Below w.heap.size w w'))
  case atStart => exact ⟨(y273), (0), (by first | rfl | (simp; done) | (simp [*]; done)), H', ⟨Nat.le_refl _⟩, ⟨by (with_reducible repeat (first | apply Ra_ | apply Rn_ | apply Rd_)); exact HO275.out⟩, ⟨by repeat (first | (with_reducible first | exact HB.out | apply ba_ | apply bn_ | apply bd_) | exact HB.out)⟩⟩
  case round =>
   clear H'; (try clear c2); (try clear c2b0); (try clear c2b1); (try clear p2); (try clear q2); (try clear hx2); (try clear qi2); (try clear c3); (try clear hx272_0); (try clear hx272_1); (try clear hx272_2); (try clear p272); (try clear q272); (obtain ⟨x3_1, x4_1, rfl, HA, HK1, HO_3, HB⟩ := hrel)
   cases gk with
   | zero => exact absurd HA.out (by simp [impl_connectedCubes.l0])
   | succ k1 =>
    (have H := HA.out); clear HA; (simp only [impl_connectedCubes.l0] at H); (by_cases c5 : x4_1 < (x3_1.length : Int))
    ·(rw [if_pos c5] at H); (have c5b0 : decide (x4_1 < (x3_1.length : Int)) = true := decide_eq_true c5); clear c5; (by_cases c6 : 0 ≤ x4_1)
     ·(rw [if_pos c6] at H); (have c6b0 : decide (0 ≤ x4_1) = true := decide_eq_true c6); clear c6; (replace H := Option.bind_eq_some_iff.mp H); (obtain ⟨t277, A70, H⟩ := H); (try dsimp only at H); (have A7 := A0_ A70); clear A70; (have H0_ := A0_ H); clear H; (obtain ⟨Ao8, co8, eo8⟩ := Kd.R_slice HO_3.out); subst eo8; (have p276 : 0 ≤ (x4_1 : Int) := of_decide_eq_true (by first | (with_reducible assumption) | assumption)); (have q276 : x4_1 < (x3_1.length : Int) := of_decide_eq_true (by first | (with_reducible assumption) | assumption)); (obtain ⟨ad276, e276, hx276_0, hx276_1, hx276_2⟩ := at_T69 (Kd.R_reads' HO_3.out).2.2 x4_1 p276 q276); (cases e276); (replace p276 := eq_true p276); (replace q276 := eq_true q276); (go_wp2_with (first | ((with_reducible refine gate_callee (f := 110) rfl ?_); refine goesL_ (some 21) rfl rfl Try.func110 (by kernel_rfl) rfl #[.agg #[.int .i64 ((rd_T69 x3_1 x4_1).f0), .int .i64 ((rd_T69 x3_1 x4_1).f1), .int .i64 ((rd_T69 x3_1 x4_1).f2)]] rfl (by (try simp only [List.map_toArray, List.map_cons, List.map_nil]); first | done | rfl | (simp only [List.length_drop, List.length_take]; rfl)) ?_; (with_reducible refine (impl_cubesAround.calls ((rd_T69 x3_1 x4_1).f0) ((rd_T69 x3_1 x4_1).f1) ((rd_T69 x3_1 x4_1).f2) t277 _ A7.out).mono ?_); rintro e w9 ⟨v278, rfl, ho0, hb⟩; refine ⟨_, rfl, ?_⟩; have n0_ := A0_ (Kd.R_elder' (by (with_reducible repeat (first | apply Ra_ | apply Rn_ | apply Rd_)); exact HO_3.out) (Kd.R_base ho0) hb); have n1_ := A0_ (Kd.R_lower (Kd.R_new' ho0 (Kd.R_lt (by (with_reducible repeat (first | apply Ra_ | apply Rn_ | apply Rd_)); exact HO_3.out))) (below_size (by repeat (first | (with_reducible first | exact HB.out | apply ba_ | apply bn_ | apply bd_) | exact HB.out)))); have n2_ := A0_ (below_step (by repeat (first | (with_reducible first | exact HB.out | apply ba_ | apply bn_ | apply bd_) | exact HB.out)) hb); clear HO_3; clear HB; have HO_3 := n0_; have HO279 := n1_; have HB := n2_; clear n0_ n1_ n2_; (try clear hb); (try clear hb2); (try clear hk); (try clear hi); (try clear ho0); refine Stop0.out ?_))); (refine Stop0.mk ?_); (have H := H0_.out); clear H0_; (have H' := A0_ H); clear H; (obtain ⟨Ao10, co10, eo10⟩ := Kd.R_slice HO279.out); subst eo10; go_wp2
      go_loopg [3, 23] k1 (fun kq v3 v23 w' => ∃ (x3_2 : List (S69)) (x23_2 : Int), v23 = .int .i64 x23_2 ∧ Aside0 (impl_connectedCubes.l1 kq l0 x3_2 x4_1 t277 (t277.length : Int) x23_2 = some r) ∧ Aside0 (kq ≤ k1) ∧ Aside0 (Kd.R k69 69 w' w.heap.size (fun k_ => some k_ ≠ ((.slice Ao10 t277.length co10) : Value).ownBlock) v3 x3_2) ∧ Aside0 (Kd.R k69 69 w' w.heap.size (fun k_ => some k_ ≠ (v3 : Value).ownBlock) (.slice Ao10 t277.length co10) t277) ∧ Aside0 (Below w.heap.size w w'))
      case atStart => exact ⟨(x3_1), (0), (by first | rfl | (simp; done) | (simp [*]; done)), H', ⟨Nat.le_refl _⟩, ⟨by (with_reducible repeat (first | apply Ra_ | apply Rn_ | apply Rd_)); exact Kd.R_mono HO_3.out (fun _ hk => hk.2)⟩, ⟨by (with_reducible repeat (first | apply Ra_ | apply Rn_ | apply Rd_)); exact Kd.R_mono HO279.out (fun _ hk => hk.2)⟩, ⟨by repeat (first | (with_reducible first | exact HB.out | apply ba_ | apply bn_ | apply bd_) | exact HB.out)⟩⟩
      case round =>
       clear H'; (try clear c1); (try clear c2); (try clear c2b0); (try clear c2b1); (try clear p2); (try clear q2); (try clear hx2); (try clear qi2); (try clear c3); (try clear c5); (try clear c5b0); (try clear c6); (try clear c6b0); (try clear c8); (try clear hx272_0); (try clear hx272_1); (try clear hx272_2); (try clear hx276_0); (try clear hx276_1); (try clear hx276_2); (try clear p2); (try clear p272); (try clear p276); (try clear q2); (try clear q272); (try clear q276); (obtain ⟨x3_2, x23_2, rfl, HA, HK2, HO_3, HO_21, HB⟩ := hrel)
       cases gk with
       | zero => exact absurd HA.out (by simp [impl_connectedCubes.l1])
       | succ k2 =>
        (have H := HA.out); clear HA; (simp only [impl_connectedCubes.l1] at H); (by_cases c11 : x23_2 < (t277.length : Int))
        ·(rw [if_pos c11] at H); (have c11b0 : decide (x23_2 < (t277.length : Int)) = true := decide_eq_true c11); clear c11; (by_cases c12 : 0 ≤ x23_2)
         ·(rw [if_pos c12] at H); (have c12b0 : decide (0 ≤ x23_2) = true := decide_eq_true c12); clear c12; (by_cases c13 : x23_2 < (t277.length : Int))
          ·(rw [if_pos c13] at H); (have c13b0 : decide (x23_2 < (t277.length : Int)) = true := decide_eq_true c13); clear c13; (replace H := Option.bind_eq_some_iff.mp H); (obtain ⟨t282, A140, H⟩ := H); (try dsimp only at H); (have A14 := A0_ A140); clear A140; (have H0_ := A0_ H); clear H; (have p280 : 0 ≤ (x23_2 : Int) := of_decide_eq_true (by first | (with_reducible assumption) | assumption)); (have q280 : x23_2 < (t277.length : Int) := of_decide_eq_true (by first | (with_reducible assumption) | assumption)); (obtain ⟨ad280, e280, hx280_0, hx280_1, hx280_2⟩ := at_T69 (Kd.R_reads' HO_21.out).2.2 x23_2 p280 q280); (cases e280); (replace p280 := eq_true p280); (replace q280 := eq_true q280)
           go_wp2_with (first | ((with_reducible refine gate_dst (N := 6) rfl ?_); refine box_event ?hg (N := 6) ?hd (cs := #[.int .i64 0, .int .i64 0, .int .i64 0]) (t := 69) ?hr ?_; (case hd => rfl); (case hg => rfl); (case hr => first | (go_simp; done) | (go_simp; rfl)); intro gb281 hg w15 hbox hb; have n0_ := A0_ (Kd.R_below (Kd.R_elderB (by (with_reducible repeat (first | apply Ra_ | apply Rn_ | apply Rd_)); exact HO_3.out) gb281 (Nat.le_of_eq hg.symm)) hb); have n1_ := A0_ (Kd.R_below (Kd.R_elderB (by (with_reducible repeat (first | apply Ra_ | apply Rn_ | apply Rd_)); exact HO_21.out) gb281 (Nat.le_of_eq hg.symm)) hb); have n2_ := A0_ (below_step (by repeat (first | (with_reducible first | exact HB.out | apply ba_ | apply bn_ | apply bd_) | exact HB.out)) hb); have n3_ := A0_ (hbox); have n4_ := A0_ ((by rw [hg]; exact (below_size (by repeat (first | (with_reducible first | exact HB.out | apply ba_ | apply bn_ | apply bd_) | exact HB.out))) : w.heap.size ≤ gb281)); have n5_ := A0_ ((by rw [hg]; exact (below_size (by repeat (first | (with_reducible first | exact HB.out | apply ba_ | apply bn_ | apply bd_) | exact HB.out))) : w.heap.size ≤ gb281)); clear HO_3; clear HO_21; clear HB; have HO_3 := n0_; have HO_21 := n1_; have HB := n2_; have BK281 := n3_; have GW281 := n4_; have GE281 := n5_; clear n0_ n1_ n2_ n3_ n4_ n5_; clear hb hbox hg; have hcz16_0 : w15.cell? ⟨gb281, 0, none⟩ = some (.int .i64 0) := (blk_cell BK281.out 0).trans rfl; have hcz16_1 : w15.cell? ⟨gb281, 1, none⟩ = some (.int .i64 0) := (blk_cell BK281.out 1).trans rfl; have hcz16_2 : w15.cell? ⟨gb281, 2, none⟩ = some (.int .i64 0) := (blk_cell BK281.out 2).trans rfl; have hfz16_0 := blk_frozen BK281.out 0; have hfz16_1 := blk_frozen BK281.out 1; have hfz16_2 := blk_frozen BK281.out 2) | ((with_reducible refine gate_callee (f := 111) rfl ?_); refine goesL_ (some 29) rfl rfl Try.func111 (by kernel_rfl) rfl #[.slice (some ad272) l0.length c0, .agg #[.int .i64 ((rd_T69 t277 x23_2).f0), .int .i64 ((rd_T69 t277 x23_2).f1), .int .i64 ((rd_T69 t277 x23_2).f2)]] rfl (by (try simp only [List.map_toArray, List.map_cons, List.map_nil]); first | done | rfl | (simp only [List.length_drop, List.length_take]; rfl)) ?_; (with_reducible refine (impl_Cube_111.calls k2 _ _ l0 ((rd_T69 t277 x23_2).f0) ((rd_T69 t277 x23_2).f1) ((rd_T69 t277 x23_2).f2) t282 _ ?side1 ?side2 A14.out).mono ?_); (case side1 => exact Kd.C_below HR0.out (by repeat (first | (with_reducible first | exact HB.out | apply ba_ | apply bn_ | apply bd_ | refine below_set ?_ GE281.out) | exact HB.out))); (case side2 => exact HC0.out); rintro e w17 ⟨rfl, hb⟩; refine ⟨_, rfl, ?_⟩; have n0_ := A0_ (Kd.R_below (by (with_reducible repeat (first | apply Ra_ | apply Rn_ | apply Rd_)); exact (Kd.R_mono (Kd.R_far (p := ⟨gb281, 2, none⟩) (Kd.R_far (p := ⟨gb281, 1, none⟩) (Kd.R_far (p := ⟨gb281, 0, none⟩) (Kd.R_mono HO_3.out (fun k_ hk => (⟨hk, hk.2⟩ : _ ∧ k_ ≠ gb281))) (fun _ hk => hk.2) (.int .i64 ((rd_T69 t277 x23_2).f0))) (fun _ hk => hk.2) (.int .i64 ((rd_T69 t277 x23_2).f1))) (fun _ hk => hk.2) (.int .i64 ((rd_T69 t277 x23_2).f2))) (fun _ h_ => h_.1))) hb); have n1_ := A0_ (Kd.R_below (by (with_reducible repeat (first | apply Ra_ | apply Rn_ | apply Rd_)); exact (Kd.R_mono (Kd.R_far (p := ⟨gb281, 2, none⟩) (Kd.R_far (p := ⟨gb281, 1, none⟩) (Kd.R_far (p := ⟨gb281, 0, none⟩) (Kd.R_mono HO_21.out (fun k_ hk => (⟨hk, hk.2⟩ : _ ∧ k_ ≠ gb281))) (fun _ hk => hk.2) (.int .i64 ((rd_T69 t277 x23_2).f0))) (fun _ hk => hk.2) (.int .i64 ((rd_T69 t277 x23_2).f1))) (fun _ hk => hk.2) (.int .i64 ((rd_T69 t277 x23_2).f2))) (fun _ h_ => h_.1))) hb); have n2_ := A0_ (blk_below (g := gb281) (o := .cells #[.int .i64 ((rd_T69 t277 x23_2).f0), .int .i64 ((rd_T69 t277 x23_2).f1), .int .i64 ((rd_T69 t277 x23_2).f2)] 69 (0, 0)) (by (with_reducible repeat (first | apply gn_ | apply gd_ | apply ga_)); refine blk_put (cs := #[.int .i64 ((rd_T69 t277 x23_2).f0), .int .i64 ((rd_T69 t277 x23_2).f1), .int .i64 0]) ?_ 2 _ rfl; (with_reducible repeat (first | apply gn_ | apply gd_ | apply ga_)); refine blk_put (cs := #[.int .i64 ((rd_T69 t277 x23_2).f0), .int .i64 0, .int .i64 0]) ?_ 1 _ rfl; (with_reducible repeat (first | apply gn_ | apply gd_ | apply ga_)); refine blk_put (cs := #[.int .i64 0, .int .i64 0, .int .i64 0]) ?_ 0 _ rfl; (with_reducible repeat (first | apply gn_ | apply gd_ | apply ga_)); exact BK281.out) hb); have n3_ := A0_ (below_step (by repeat (first | (with_reducible first | exact HB.out | apply ba_ | apply bn_ | apply bd_ | refine below_set ?_ GE281.out) | exact HB.out)) hb); clear HO_3; clear HO_21; clear BK281; clear HB; have HO_3 := n0_; have HO_21 := n1_; have BK281 := n2_; have HB := n3_; clear n0_ n1_ n2_ n3_; (try clear hb); (try clear hb2); (try clear hk); (try clear hi); refine Stop0.out ?_))
           (refine Stop0.mk ?_); (have H := H0_.out); clear H0_; (by_cases c18 : t282 = true)
           ·subst c18; (have H1 := H); (rw [if_pos rfl] at H1); clear H; (have H := H1); clear H1; (replace H := Option.bind_eq_some_iff.mp H); (obtain ⟨t283, A190, H⟩ := H); (try dsimp only at H); (have A19 := A0_ A190); clear A190; (have H0_ := A0_ H); clear H; (have hcz20_0 : w17.cell? ⟨gb281, 0, none⟩ = some (.int .i64 ((rd_T69 t277 x23_2).f0)) := (blk_cell BK281.out 0).trans rfl); (have hcz20_1 : w17.cell? ⟨gb281, 1, none⟩ = some (.int .i64 ((rd_T69 t277 x23_2).f1)) := (blk_cell BK281.out 1).trans rfl); (have hcz20_2 : w17.cell? ⟨gb281, 2, none⟩ = some (.int .i64 ((rd_T69 t277 x23_2).f2)) := (blk_cell BK281.out 2).trans rfl); (have hfz20_0 := blk_frozen BK281.out 0); (have hfz20_1 := blk_frozen BK281.out 1); (have hfz20_2 := blk_frozen BK281.out 2); (obtain ⟨Ao21, co21, eo21⟩ := Kd.R_slice HO_3.out); subst eo21; (go_wp2_with (first | (go_at_call 111; (with_reducible refine (impl_Cube_111.calls k2 _ _ x3_2 ((rd_T69 t277 x23_2).f0) ((rd_T69 t277 x23_2).f1) ((rd_T69 t277 x23_2).f2) t283 _ ?side1 ?side2 A19.out).mono ?_); (case side1 => repeat (first | exact (Kd.R_reads' HO_3.out).2.2 | (with_reducible refine Kd.C_alloc ?_ _) | (with_reducible refine Kd.C_drewN ?_ _) | (with_reducible refine Kd.C_drew ?_))); (case side2 => exact (Kd.R_reads' HO_3.out).2.1); rintro e w22 ⟨rfl, hb⟩; have n0_ := A0_ (Kd.R_below (by (with_reducible repeat (first | apply Ra_ | apply Rn_ | apply Rd_)); exact HO_3.out) hb); have n1_ := A0_ (Kd.R_below (by (with_reducible repeat (first | apply Ra_ | apply Rn_ | apply Rd_)); exact HO_21.out) hb); have n2_ := A0_ (blk_below (g := gb281) (o := .cells #[.int .i64 ((rd_T69 t277 x23_2).f0), .int .i64 ((rd_T69 t277 x23_2).f1), .int .i64 ((rd_T69 t277 x23_2).f2)] 69 (0, 0)) (by (with_reducible repeat (first | apply gn_ | apply gd_ | apply ga_)); exact BK281.out) hb); have n3_ := A0_ (below_step (by repeat (first | (with_reducible first | exact HB.out | apply ba_ | apply bn_ | apply bd_ | refine below_set ?_ GE281.out) | exact HB.out)) hb); clear HO_3; clear HO_21; clear BK281; clear HB; have HO_3 := n0_; have HO_21 := n1_; have BK281 := n2_; have HB := n3_; clear n0_ n1_ n2_ n3_; (try clear hb); (try clear hb2); (try clear hk); (try clear hi); refine Stop0.out ?_))); (refine Stop0.mk ?_); (have H := H0_.out); clear H0_; (by_cases c23 : t283 = true)
            ·subst c23; (have H1 := H); (rw [if_pos rfl] at H1); clear H; (have H := H1); clear H1; (have H' := A0_ H); clear H; go_wp2; (go_roundg k2)
             case measure => have := HK1.out; have := HK2.out; omega
             case rel => exact ⟨(x3_2), (wrap64 (x23_2 + 1)), (by first | rfl | (simp; done) | (simp [*]; done)), H', ⟨by have := HK1.out; have := HK2.out; omega⟩, ⟨by (with_reducible repeat (first | apply Ra_ | apply Rn_ | apply Rd_)); exact Kd.R_mono HO_3.out (fun _ hk => hk.1)⟩, ⟨by (with_reducible repeat (first | apply Ra_ | apply Rn_ | apply Rd_)); exact Kd.R_mono HO_21.out (fun _ hk => hk.1)⟩, ⟨by repeat (first | (with_reducible first | exact HB.out | apply ba_ | apply bn_ | apply bd_ | refine below_set ?_ GE281.out) | exact HB.out)⟩⟩
            ·(replace c23 := Bool.eq_false_iff.mpr c23); subst c23; (have H1 : (if x3_2.length < 5864062014805 then (impl_connectedCubes.l1 k2 l0 (x3_2 ++ [(⟨(rd_T69 t277 x23_2).f0, (rd_T69 t277 x23_2).f1, (rd_T69 t277 x23_2).f2⟩ : S69)]) x4_1 t277 (t277.length : Int) (wrap64 (x23_2 + 1))) else (none)) = some r := by rw [if_neg (show ¬ (false = true) by decide)] at H; exact H); clear H; (have H := H1); clear H1; (by_cases c24 : x3_2.length < 5864062014805)
             ·(rw [if_pos c24] at H); (have LMc24 := A0_ c24); clear c24; (obtain ⟨y284, hy284⟩ : ∃ y_ : List (S69), y_ = (x3_2 ++ [(⟨(rd_T69 t277 x23_2).f0, (rd_T69 t277 x23_2).f1, (rd_T69 t277 x23_2).f2⟩ : S69)]) := ⟨_, rfl⟩); (replace H : (impl_connectedCubes.l1 k2 l0 y284 x4_1 t277 (t277.length : Int) (wrap64 (x23_2 + 1))) = some r := by first | (rw [hy284]; with_reducible exact H) | (have H2_ := (Option.bind_some _ _).symm.trans H; rw [hy284]; with_reducible exact H2_) | (have H2_ := (Option.bind_some _ _).symm.trans H; with_reducible exact H2_) | with_reducible exact H | (rw [hy284]; exact H) | exact H); (have Ny284 := A0_ hy284); clear hy284; (have H' := A0_ H); clear H; (have hcz25_0 : w22.cell? ⟨gb281, 0, none⟩ = some (.int .i64 ((rd_T69 t277 x23_2).f0)) := (blk_cell BK281.out 0).trans rfl); (have hcz25_1 : w22.cell? ⟨gb281, 1, none⟩ = some (.int .i64 ((rd_T69 t277 x23_2).f1)) := (blk_cell BK281.out 1).trans rfl); (have hcz25_2 : w22.cell? ⟨gb281, 2, none⟩ = some (.int .i64 ((rd_T69 t277 x23_2).f2)) := (blk_cell BK281.out 2).trans rfl); (have hfz25_0 := blk_frozen BK281.out 0); (have hfz25_1 := blk_frozen BK281.out 1); (have hfz25_2 := blk_frozen BK281.out 2)
              go_wp2_with (first | ((with_reducible refine gate_builtin (b := .append) (xs := #[.tmp 36, .tmp 38]) rfl ?_); at_builtin; refine Kd.R_append k69 (w0 := w) w.heap.size rfl (.tmp 36) (.tmp 38) 34 69 (.agg #[(.int .i64 0), (.int .i64 0), (.int .i64 0)]) 24 rfl Try.underlying34 info69 rfl (by decide) (by omega) (.slice Ao21 x3_2.length co21) x3_2 (⟨(rd_T69 t277 x23_2).f0, (rd_T69 t277 x23_2).f1, (rd_T69 t277 x23_2).f2⟩ : S69) [.int .i64 ((rd_T69 t277 x23_2).f0), .int .i64 ((rd_T69 t277 x23_2).f1), .int .i64 ((rd_T69 t277 x23_2).f2)] (fun k_ => some k_ ≠ (.slice (some ad280) t277.length co10 : Value).ownBlock ∧ k_ ≠ gb281) (fun _ => False) rfl rfl ?aP (fun _ hk => hk.elim) ?aF ?aO ?aB ?aS ?aL ?_; (case aP => exact k69_mkM _ _ _ (⟨(rd_T69 t277 x23_2).f0, (rd_T69 t277 x23_2).f1, (rd_T69 t277 x23_2).f2⟩ : S69)); (case aB => exact (by repeat (first | (with_reducible first | exact HB.out | apply ba_ | apply bn_ | apply bd_ | refine below_set ?_ GE281.out) | exact HB.out))); (case aF => exact (fun k_ hk => ⟨Kd.fresh' (Kd.R_lt (by (with_reducible repeat (first | apply Ra_ | apply Rn_ | apply Rd_)); exact HO_21.out)) k_ hk, Kd.freshB (g := gb281) (o := .cells #[.int .i64 ((rd_T69 t277 x23_2).f0), .int .i64 ((rd_T69 t277 x23_2).f1), .int .i64 ((rd_T69 t277 x23_2).f2)] 69 (0, 0)) (by (with_reducible repeat (first | apply gn_ | apply gd_ | apply ga_)); exact BK281.out) k_ hk⟩)); (case aO => exact (by (with_reducible repeat (first | apply Ra_ | apply Rn_ | apply Rd_)); exact HO_3.out)); (case aS => exact (below_size (by repeat (first | (with_reducible first | exact HB.out | apply ba_ | apply bn_ | apply bd_ | refine below_set ?_ GE281.out) | exact HB.out)))); (case aL => have := LMc24.out; omega); intro v285 w26 ho hb hg hat; rw [← Ny284.out] at ho; have n0_ := A0_ (Kd.R_after (ok := (fun k_ => k_ ≠ gb281)) (by (with_reducible repeat (first | apply Ra_ | apply Rn_ | apply Rd_)); exact Kd.R_mono HO_21.out (fun _ hk => ⟨hk.2, hk.1⟩)) hg hat); have n1_ := A0_ (blk_grown (g := gb281) (o := .cells #[.int .i64 ((rd_T69 t277 x23_2).f0), .int .i64 ((rd_T69 t277 x23_2).f1), .int .i64 ((rd_T69 t277 x23_2).f2)] 69 (0, 0)) (by (with_reducible repeat (first | apply gn_ | apply gd_ | apply ga_)); exact BK281.out) hg (Kd.R_away HO_3.out (fun _ hk => hk.2))); have n2_ := A0_ (hb); have n3_ := A0_ (ho); clear HO_21; clear BK281; clear HB; clear HO_3; have HO_21 := n0_; have BK281 := n1_; have HB := n2_; have HO286 := n3_; clear n0_ n1_ n2_ n3_; clear ho hb hg hat))
              (go_roundg k2)
              case measure => have := HK1.out; have := HK2.out; omega
              case rel => exact ⟨(y284), (wrap64 (x23_2 + 1)), (by first | rfl | (simp; done) | (simp [*]; done)), H', ⟨by have := HK1.out; have := HK2.out; omega⟩, ⟨by (with_reducible repeat (first | apply Ra_ | apply Rn_ | apply Rd_)); exact Kd.R_mono HO286.out (fun _ hk => hk.1)⟩, ⟨by (with_reducible repeat (first | apply Ra_ | apply Rn_ | apply Rd_)); exact Kd.R_mono HO_21.out (fun _ hk => hk.2)⟩, ⟨by repeat (first | (with_reducible first | exact HB.out | apply ba_ | apply bn_ | apply bd_ | refine below_set ?_ GE281.out) | exact HB.out)⟩⟩
             ·(rw [if_neg c24] at H); (exact absurd H (by simp))
           ·(replace c18 := Bool.eq_false_iff.mpr c18); subst c18; (have H1 : (impl_connectedCubes.l1 k2 l0 x3_2 x4_1 t277 (t277.length : Int) (wrap64 (x23_2 + 1))) = some r := by rw [if_neg (show ¬ (false = true) by decide)] at H; exact H); clear H; (have H := H1); clear H1; (have H' := A0_ H); clear H; go_wp2; (go_roundg k2)
            case measure => have := HK1.out; have := HK2.out; omega
            case rel => exact ⟨(x3_2), (wrap64 (x23_2 + 1)), (by first | rfl | (simp; done) | (simp [*]; done)), H', ⟨by have := HK1.out; have := HK2.out; omega⟩, ⟨by (with_reducible repeat (first | apply Ra_ | apply Rn_ | apply Rd_)); exact Kd.R_mono HO_3.out (fun _ hk => hk.1)⟩, ⟨by (with_reducible repeat (first | apply Ra_ | apply Rn_ | apply Rd_)); exact Kd.R_mono HO_21.out (fun _ hk => hk.1)⟩, ⟨by repeat (first | (with_reducible first | exact HB.out | apply ba_ | apply bn_ | apply bd_ | refine below_set ?_ GE281.out) | exact HB.out)⟩⟩
          ·(rw [if_neg c13] at H); (exact absurd H (by simp))
         ·(rw [if_neg c12] at H); (exact absurd H (by simp))
        ·(rw [if_neg c11] at H); (have c11b0 : decide (x23_2 < (t277.length : Int)) = false := decide_eq_false c11); clear c11; (have H' := A0_ H); clear H; go_wp2; (go_roundg k2)
         case measure => have := HK1.out; have := HK2.out; omega
         case rel => exact ⟨(x3_2), (wrap64 (x4_1 + 1)), (by first | rfl | (simp; done) | (simp [*]; done)), H', ⟨by have := HK1.out; have := HK2.out; omega⟩, ⟨by (with_reducible repeat (first | apply Ra_ | apply Rn_ | apply Rd_)); exact Kd.R_mono HO_3.out (fun _ hk => trivial)⟩, ⟨by repeat (first | (with_reducible first | exact HB.out | apply ba_ | apply bn_ | apply bd_) | exact HB.out)⟩⟩
     ·(rw [if_neg c6] at H); (exact absurd H (by simp))
    ·(rw [if_neg c5] at H); (have c5b0 : decide (x4_1 < (x3_1.length : Int)) = false := decide_eq_false c5); clear c5; (obtain rfl := Option.some.inj H); (obtain ⟨Ao27, co27, eo27⟩ := Kd.R_slice HO_3.out); subst eo27; go_wp2; go_ret; (exact ⟨by first | rfl | (simp [errW_none, errW_some] <;> rfl) | (simp [*, errW_none, errW_some] <;> rfl), by repeat (first | (with_reducible first | exact HB.out | apply ba_ | apply bn_ | apply bd_) | exact HB.out)⟩)
 ·(rw [if_neg c2] at H); (exact absurd H (by simp))
end Go.Proofs.Ytlbckkagjekhnaa.A

/- impl.IsAssembly, walked (tools/buria.py prints its drawing region). -/
namespace Go.Proofs.Ytlbckkagjekhnaa.A
open Go.RowKit Go.Proofs.YtlbckkagjekhnaaW.PrintWords Go.Proofs.YtlbckkagjekhnaaW.PrintLast Go.Proofs.YtlbckkagjekhnaaW.PrintMore
set_option linter.unusedVariables false
set_option linter.unusedSimpArgs false
def partOk (sol con : List Cb → Bool) (p : List Cb) : Bool := sol p && (con p && !p.any (fun c => !inCb c 0 7))
def isAsmP (sol con : List Cb → Bool) (parts : List (List Cb)) : Bool := (decide (2 ≤ parts.length) && decide (parts.length ≤ 4)) && (parts.all (partOk sol con) && clearP parts (zerosC parts.length))
set_option maxHeartbeats 1000000 in
set_option maxRecDepth 100000 in
theorem in7_pred (w : World) : PredC w 83 #[] (fun c => !inCb c 0 7) := by
  refine ⟨_, Try.func83, by kernel_rfl, by kernel_rfl, ?_⟩
  intro c w' hb
  have hu69 := Try.underlying69
  have HS := A0_ (Sp.start w')
  have HIN := A0_ (inCube_eq c 0 7)
  dsimp only
  generalize inCb c 0 7 = b at HIN ⊢
  clear hb
  show Calls Try.prog 83 #[vC c] w' _
  go_enter Try.func83, Try.ntmps83
  go_wp2_with (first
    | ((with_reducible refine gate_dst (N := 1) rfl ?_); refine box_event ?hg (N := 1) ?hd (cs := #[.int .i64 c.f0, .int .i64 c.f1, .int .i64 c.f2]) (t := 69) ?hr ?_; (case hd => rfl); (case hg => rfl); (case hr => first | (go_simp; done) | (go_simp; rfl)); intro gc hgb_ wb_ hcb_ hbb_; have HS_ := A0_ (Sp.boxed HS.out hgb_ hcb_ hbb_); clear HS; have HS := HS_; clear HS_; clear hgb_ hcb_ hbb_; have hc0 := (blk_cell (Sp.blk HS.out (i := 0) rfl).1 0).trans rfl; have hc1 := (blk_cell (Sp.blk HS.out (i := 0) rfl).1 1).trans rfl; have hc2 := (blk_cell (Sp.blk HS.out (i := 0) rfl).1 2).trans rfl)
    | (go_at_call 84; refine (impl_inCube.calls c.f0 c.f1 c.f2 0 7 b _ HIN.out).mono ?_; rintro e wc_ ⟨rfl, hb_⟩; have HS_ := A0_ (Sp.far HS.out hb_); clear HS; have HS := HS_; clear HS_; clear hb_ hc0 hc1 hc2))
  go_ret
  exact ⟨rfl, HS.out.below⟩
def isAsmF.T9 : Bool × List (List Nat × List Nat) := (true, [([], []), ([0], [0]), ([], []), ([2], [2]), ([3], [3]), ([4, 4], [4]), ([1, 5, 1], [1, 5]), ([6, 6, 0, 1, 2, 3, 4, 5, 6], [6])])
def isAsmF.B9 : List Nat := [0, 1, 0, 4, 12, 28, 63, 127]
theorem isAsmF.tab9 : rtab .any (opsOf Try.f56 9) = isAsmF.T9 := by kernel_rfl
theorem isAsmF.bits9 : waitsOk isAsmF.T9.2 isAsmF.B9 = true := by kernel_rfl
set_option maxHeartbeats 4000000 in
set_option maxRecDepth 100000 in
theorem isAssembly_calls (w0 : World) (Ap : Option Addr) (cp : Nat) (parts : List (List Cb)) (hP : kP.C w0 Ap parts.length parts) (hsz : ∀ p ∈ parts, p.length ≤ 1048576) (sol con : List Cb → Bool) (hsol : ∀ p ∈ parts, ∃ K, impl_isSolid.f K p = some (sol p)) (hcon : ∀ p ∈ parts, sol p = true → ∃ K, impl_connectedCubes.f K p = some (con p)) (rest : List Res) (w : World) (hs : Sp w0 rest w) :
    Calls Try.prog 56 #[.agg #[.slice Ap parts.length cp]] w fun e w' => e = .returned (.bool (isAsmP sol con parts)) ∧ Sp w0 rest w' := by
  have hu32 := Try.underlying32
  have HS := A0_ hs
  have HP := A0_ hP
  have HSZ := A0_ hsz
  have HSOL := A0_ hsol
  have HCON := A0_ hcon
  clear hs hP hsz hsol hcon
  by_cases c1 : parts.length < 2
  · have d0 : decide ((parts.length : Int) < 2) = true := decide_eq_true (by omega)
    have d1 : ((parts.length : Int) < 2) = True := eq_true (by omega)
    have d2 : (parts.length < 2) = True := eq_true c1
    have HN := A0_ (show isAsmP sol con parts = false by unfold isAsmP; rw [decide_eq_false (show ¬ 2 ≤ parts.length by omega)]; rfl)
    clear c1
    go_enter Try.func56, Try.ntmps56
    go_wp2_with (first
      | ((with_reducible refine gate_dst (N := 1) rfl ?_); refine box_event ?hg (N := 1) ?hd (cs := #[.slice Ap parts.length cp]) (t := 32) ?hr ?_; (case hd => rfl); (case hg => rfl); (case hr => first | (go_simp; done) | (go_simp; rfl)); intro ga hgb_ wb_ hcb_ hbb_; have HS_ := A0_ (Sp.boxed HS.out hgb_ hcb_ hbb_); clear HS; have HS := HS_; clear HS_; clear hgb_ hcb_ hbb_; have ha0 := (blk_cell (Sp.blk HS.out (i := 0) rfl).1 0).trans rfl))
    go_ret
    exact ⟨by rw [HN.out]; rfl, Sp.tail HS.out⟩
  by_cases c2 : 4 < parts.length
  · have d0 : decide ((parts.length : Int) < 2) = false := decide_eq_false (by omega)
    have d1 : ((parts.length : Int) < 2) = False := eq_false (by omega)
    have d2 : (parts.length < 2) = False := eq_false c1
    have d3 : decide ((4 : Int) < (parts.length : Int)) = true := decide_eq_true (by omega)
    have d4 : ((4 : Int) < (parts.length : Int)) = True := eq_true (by omega)
    have d5 : (4 < parts.length) = True := eq_true c2
    have HN := A0_ (show isAsmP sol con parts = false by unfold isAsmP; rw [decide_eq_false (show ¬ parts.length ≤ 4 by omega), Bool.and_false]; rfl)
    clear c1 c2
    go_enter Try.func56, Try.ntmps56
    go_wp2_with (first
      | ((with_reducible refine gate_dst (N := 1) rfl ?_); refine box_event ?hg (N := 1) ?hd (cs := #[.slice Ap parts.length cp]) (t := 32) ?hr ?_; (case hd => rfl); (case hg => rfl); (case hr => first | (go_simp; done) | (go_simp; rfl)); intro ga hgb_ wb_ hcb_ hbb_; have HS_ := A0_ (Sp.boxed HS.out hgb_ hcb_ hbb_); clear HS; have HS := HS_; clear HS_; clear hgb_ hcb_ hbb_; have ha0 := (blk_cell (Sp.blk HS.out (i := 0) rfl).1 0).trans rfl))
    go_ret
    exact ⟨by rw [HN.out]; rfl, Sp.tail HS.out⟩
  have d0 : decide ((parts.length : Int) < 2) = false := decide_eq_false (by omega)
  have d1 : ((parts.length : Int) < 2) = False := eq_false (by omega)
  have d2 : (parts.length < 2) = False := eq_false c1
  have d3 : decide ((4 : Int) < (parts.length : Int)) = false := decide_eq_false (by omega)
  have d4 : ((4 : Int) < (parts.length : Int)) = False := eq_false (by omega)
  have d5 : (4 < parts.length) = False := eq_false c2
  have HN := A0_ (show isAsmP sol con parts = (parts.all (partOk sol con) && clearP parts (zerosC parts.length)) by unfold isAsmP; rw [decide_eq_true (show 2 ≤ parts.length by omega), decide_eq_true (show parts.length ≤ 4 by omega)]; rfl)
  have HL := A0_ (show 2 ≤ parts.length ∧ parts.length ≤ 4 by omega)
  have HF := A0_ (show FrOk w0 Ap parts from ⟨HP.out, by omega, HSZ.out⟩)
  rw [HN.out]
  clear c1 c2 HN
  go_enter Try.func56, Try.ntmps56
  go_wp2_with (first
    | ((with_reducible refine gate_dst (N := 1) rfl ?_); refine box_event ?hg (N := 1) ?hd (cs := #[.slice Ap parts.length cp]) (t := 32) ?hr ?_; (case hd => rfl); (case hg => rfl); (case hr => first | (go_simp; done) | (go_simp; rfl)); intro ga hgb_ wb_ hcb_ hbb_; have HS_ := A0_ (Sp.boxed HS.out hgb_ hcb_ hbb_); clear HS; have HS := HS_; clear HS_; clear hgb_ hcb_ hbb_; have ha0 := (blk_cell (Sp.blk HS.out (i := 0) rfl).1 0).trans rfl))
  clear ha0
  have HS_ := A0_ (show Sp w0 ([Res.blk ga #[.slice Ap parts.length cp] 32] ++ rest) wb_ from HS.out)
  clear HS
  have HS := HS_
  clear HS_
  go_loopg [18] (parts.length + 1) (fun kq v18 w' => ∃ (i : Nat), v18 = .int .i64 (i : Int) ∧ Aside0 (i ≤ parts.length ∧ kq + i = parts.length + 1 ∧ (parts.take i).all (partOk sol con) = true) ∧ Aside0 (Sp w0 ([Res.blk ga #[.slice Ap parts.length cp] 32] ++ rest) w'))
  case atStart => exact ⟨0, rfl, ⟨by omega, by omega, by simp⟩, HS⟩
  case round =>
    clear HS
    obtain ⟨i, rfl, HX, HS⟩ := hrel
    obtain ⟨k1, rfl⟩ : ∃ k1, gk = k1 + 1 := ⟨gk - 1, by have := HX.out; omega⟩
    by_cases ci : i < parts.length
    · have ci0 : decide (i < parts.length) = true := decide_eq_true ci
      have q0 : (0 ≤ (i : Int)) = True := eq_true (by omega)
      have q1 : ((i : Int) < (parts.length : Int)) = True := eq_true (by omega)
      obtain ⟨adp, Ai, ci_, e, hx0, hx1, hx2⟩ := at_L4 (Kd.C_below HP.out HS.out.below) (i : Int) (by omega) (by omega)
      subst e
      have hpi : rd_L4 parts (i : Int) = parts[i] := by unfold rd_L4; simp [ci]
      rw [hpi] at hx0 hx1 hx2
      rw [Int.toNat_natCast] at hx0
      have hin : parts[i] ∈ parts := List.getElem_mem ci
      obtain ⟨K1, hK1⟩ := HSOL.out _ hin
      have hK2 := HCON.out _ hin
      have HNX := A0_ (show (parts.take (i + 1)).all (partOk sol con) = partOk sol con parts[i] by rw [List.take_succ_eq_append_getElem ci, List.all_append, HX.out.2.2]; simp)
      have HNO := A0_ (fun (h : partOk sol con parts[i] = false) => show parts.all (partOk sol con) = false by
        rw [Bool.eq_false_iff]
        intro hc
        rw [List.all_eq_true] at hc
        rw [hc _ hin] at h
        cases h)
      have HW := A0_ (wrap_succ i (by have := HL.out; omega))
      generalize parts[i] = p at hx0 hx1 hx2 hK1 hK2 HNX HNO
      have HC := A0_ hx2
      have HCC := A0_ hx1
      clear hpi hin ci hx1 hx2
      cases c1 : sol p with
      | false =>
        rw [c1] at hK1
        have HK1 := A0_ hK1
        have HFA := A0_ (HNO.out (by unfold partOk; rw [c1]; first | done | rfl))
        clear hK1 hK2 HNX HNO c1
        go_wp2_with (first
          | (go_at_call 80; refine (impl_isSolid.calls K1 Ai ci_ p false _ HC.out HCC.out HK1.out).mono ?_; rintro e wc_ ⟨rfl, hb_⟩; have HS_ := A0_ (Sp.far HS.out hb_); clear HS; have HS := HS_; clear HS_; clear hb_ hx0))
        go_ret
        exact ⟨by rw [HFA.out]; rfl, Sp.tail HS.out⟩
      | true =>
        rw [c1] at hK1
        have HK1 := A0_ hK1
        obtain ⟨K2, hK2⟩ := hK2 c1
        cases c2 : con p with
        | false =>
          rw [c2] at hK2
          have HK2 := A0_ hK2
          have HFA := A0_ (HNO.out (by unfold partOk; rw [c1, c2]; first | done | rfl))
          clear hK1 hK2 HNX HNO c1 c2
          go_wp2_with (first
            | (go_at_call 80; refine (impl_isSolid.calls K1 Ai ci_ p true _ HC.out HCC.out HK1.out).mono ?_; rintro e wc_ ⟨rfl, hb_⟩; have HS_ := A0_ (Sp.far HS.out hb_); clear HS; have HS := HS_; clear HS_; have HC_ := A0_ (Kd.C_below HC.out hb_); clear HC; have HC := HC_; clear HC_; clear hb_ hx0)
            | (go_at_call 81; refine (impl_connectedCubes.calls K2 Ai ci_ p false _ HC.out HCC.out HK2.out).mono ?_; rintro e wc_ ⟨rfl, hb_⟩; have HS_ := A0_ (Sp.far HS.out hb_); clear HS; have HS := HS_; clear HS_; clear hb_))
          go_ret
          exact ⟨by rw [HFA.out]; rfl, Sp.tail HS.out⟩
        | true =>
          rw [c2] at hK2
          have HK2 := A0_ hK2
          cases c3 : p.any (fun c => !inCb c 0 7) with
          | true =>
            have HAN := A0_ c3
            have HFA := A0_ (HNO.out (by unfold partOk; rw [c1, c2, c3]; first | done | rfl))
            clear hK1 hK2 HNX HNO c1 c2 c3
            go_wp2_with (first
              | (go_at_call 80; refine (impl_isSolid.calls K1 Ai ci_ p true _ HC.out HCC.out HK1.out).mono ?_; rintro e wc_ ⟨rfl, hb_⟩; have HS_ := A0_ (Sp.far HS.out hb_); clear HS; have HS := HS_; clear HS_; have HC_ := A0_ (Kd.C_below HC.out hb_); clear HC; have HC := HC_; clear HC_; clear hb_ hx0)
              | (go_at_call 81; refine (impl_connectedCubes.calls K2 Ai ci_ p true _ HC.out HCC.out HK2.out).mono ?_; rintro e wc_ ⟨rfl, hb_⟩; have HS_ := A0_ (Sp.far HS.out hb_); clear HS; have HS := HS_; clear HS_; have HC_ := A0_ (Kd.C_below HC.out hb_); clear HC; have HC := HC_; clear HC_; clear hb_)
              | (go_at_call 82; refine (containsFunc_calls Ai ci_ p _ _ #[] _ (in7_pred _) HC.out).mono ?_; rw [HAN.out]; rintro e wc_ ⟨rfl, hb_⟩; have HS_ := A0_ (Sp.far HS.out hb_); clear HS; have HS := HS_; clear HS_; clear hb_))
            go_ret
            exact ⟨by rw [HFA.out]; rfl, Sp.tail HS.out⟩
          | false =>
            have HAN := A0_ c3
            have HN2 := A0_ (HNX.out.trans (by unfold partOk; rw [c1, c2, c3]; first | done | rfl))
            clear hK1 hK2 HNX HNO c1 c2 c3
            go_wp2_with (first
              | (go_at_call 80; refine (impl_isSolid.calls K1 Ai ci_ p true _ HC.out HCC.out HK1.out).mono ?_; rintro e wc_ ⟨rfl, hb_⟩; have HS_ := A0_ (Sp.far HS.out hb_); clear HS; have HS := HS_; clear HS_; have HC_ := A0_ (Kd.C_below HC.out hb_); clear HC; have HC := HC_; clear HC_; clear hb_ hx0)
              | (go_at_call 81; refine (impl_connectedCubes.calls K2 Ai ci_ p true _ HC.out HCC.out HK2.out).mono ?_; rintro e wc_ ⟨rfl, hb_⟩; have HS_ := A0_ (Sp.far HS.out hb_); clear HS; have HS := HS_; clear HS_; have HC_ := A0_ (Kd.C_below HC.out hb_); clear HC; have HC := HC_; clear HC_; clear hb_)
              | (go_at_call 82; refine (containsFunc_calls Ai ci_ p _ _ #[] _ (in7_pred _) HC.out).mono ?_; rw [HAN.out]; rintro e wc_ ⟨rfl, hb_⟩; have HS_ := A0_ (Sp.far HS.out hb_); clear HS; have HS := HS_; clear HS_; clear hb_))
            go_roundg k1
            case measure => omega
            case rel =>
              rw [HW.out]
              exact ⟨i + 1, rfl, ⟨by have := of_decide_eq_true ci0; omega, by have := HX.out; omega, HN2.out⟩, HS⟩
    · have ci0 : decide (i < parts.length) = false := decide_eq_false ci
      have HALL := A0_ (show parts.all (partOk sol con) = true by
        have h := HX.out.2.2
        rw [List.take_of_length_le (by omega)] at h
        exact h)
      clear ci
      go_wp2
      have HS_ := A0_ (Sp.drew HS.out)
      clear HS
      have HS := HS_
      clear HS_
      refine start_ (n := 8) (S := fun w' => w'.cell? ⟨ga, 0, none⟩ = some (.slice Ap parts.length cp)) (ds := []) #[false, false, false, false, false, false, false, false] (by kernel_rfl) rfl rfl ((blk_cell (Sp.blk HS.out (i := 0) rfl).1 0).trans rfl) (fun hHeld => ?_)
      refine with_tabW isAsmF.tab9 isAsmF.bits9 (fun HT_ HW_ => ?_)
      generalize wr.drew = wD at HS hHeld ⊢
      refine tk_ 0 (some 35) ?_
      refine on_ 2 (some 37) ?_
      refine tk_ 3 (some 38) ?_
      refine on_ 4 (some 39) ?_
      refine o2_ 1 5 (some 36) (some 40) (fun K hK => ?_) (fun K hK => ?_)
      · refine goes_ Try.func68 (by kernel_rfl) rfl #[.agg #[.slice Ap parts.length cp]] (by rfl) rfl rfl (by (try simp only [List.map_toArray, List.map_cons, List.map_nil]); first | done | rfl | (simp only [List.length_drop, List.length_take]; rfl)) ?_
        refine (newFrame_calls w0 Ap cp parts ([Res.blk ga #[.slice Ap parts.length cp] 32] ++ rest) _ HS.out).mono ?_
        rintro e wF ⟨gF, gM, rfl, hs_⟩
        refine ⟨_, rfl, ?_⟩
        have HS_ := A0_ (hs_)
        clear HS
        have HS := HS_
        clear HS_
        clear hs_
        refine hK.out _ _ ((blk_cell (Sp.blk HS.out (i := 2) rfl).1 0).trans rfl) (fun hHeld => ?_)
        clear hK K
        refine nm_ (some 36) ?_
        refine o1_ 5 (some 40) (fun K hK => ?_)
        refine Kd.R_make_step kC _ 69 (by rfl) (N := 40) rfl 34 _ _ rfl ((parts.length : Nat) : Int) rfl rfl Try.underlying34 (.agg #[(.int .i64 0), (.int .i64 0), (.int .i64 0)]) 24 info69 rfl (by decide) (by decide) (⟨0, 0, 0⟩ : Cb) (ok := fun _ => True) (okp := fun _ => True) (k69_mkM _ _ _ (⟨0, 0, 0⟩ : Cb)) (fun _ hk => hk) trivial (by omega) (by have := HL.out; omega) (Below.refl _ _) (Nat.le_refl _) ?_
        intro vA11 wA11 ho hb hg_ hn_
        clear hg_ hn_
        rw [Int.toNat_natCast] at ho
        have HZR_ := A0_ (Sp.made' HS.out hb ho)
        clear HS ho hb
        have HS := HZR_
        clear HZR_
        obtain ⟨AZ, cZ, eA_⟩ := Sp.slice HS.out (i := 0) rfl
        subst eA_
        have hcz_ := (Sp.reads HS.out (i := 0) rfl).2.1
        refine hK.out _ _ ((blk_cell (Sp.blk HS.out (i := 3) rfl).1 0).trans rfl) (fun hHeld => ?_)
        clear hK K
        refine nm_ (some 40) ?_
        refine o1_ 6 (some 41) (fun K hK => ?_)
        have HS_ := A0_ (Sp.arr (pre := [Res.row kC 69 w0.heap.size (.slice AZ (zerosC parts.length).length cZ) (zerosC parts.length), frBlk gF gM Ap cp parts, frMemo gM parts, Res.blk ga #[.slice Ap parts.length cp] 32]) (pre' := [frBlk gF gM Ap cp parts, frMemo gM parts, Res.row kC 69 w0.heap.size (.slice AZ (zerosC parts.length).length cZ) (zerosC parts.length), Res.blk ga #[.slice Ap parts.length cp] 32]) (rest := rest) [1, 2, 0, 3] HS.out rfl rfl)
        clear HS
        have HS := HS_
        clear HS_
        have hzl_ : (zerosC parts.length).length = parts.length := List.length_replicate
        have hcl_ := clear_calls w0 Ap cp gF gM parts HF.out (Res.row kC 69 w0.heap.size (.slice AZ (zerosC parts.length).length cZ) (zerosC parts.length)) AZ cZ (zerosC parts.length) Rds.row hcz_ (by rw [hzl_]; exact Nat.le_refl _) ([Res.blk ga #[.slice Ap parts.length cp] 32] ++ rest) _ HS.out
        refine goes_ Try.func85 (by kernel_rfl) rfl #[.pointer (some ⟨gF, 0, none⟩), .slice AZ (zerosC parts.length).length cZ] (by rfl) rfl rfl (by (try simp only [List.map_toArray, List.map_cons, List.map_nil]); first | done | rfl | (simp only [List.length_drop, List.length_take]; rfl)) ?_
        refine hcl_.mono ?_
        rintro e wC ⟨rfl, hs_⟩
        refine ⟨_, rfl, ?_⟩
        have HS_ := A0_ (hs_)
        clear HS
        have HS := HS_
        clear HS_
        clear hs_ hcl_
        refine hK.out _ _ ((blk_cell (Sp.blk HS.out (i := 3) rfl).1 0).trans rfl) (fun hHeld => ?_)
        clear hK K
        refine nm_ (some 41) ?_
        refine on_ 7 (some 2) ?_
        refine dn_ ?_
        try go_wp2
        go_ret
        exact ⟨by rw [HALL.out]; rfl, Sp.out (Sp.out (Sp.out (Sp.out HS.out 3) 2) 1) 0⟩
      · refine Kd.R_make_step kC _ 69 (by rfl) (N := 40) rfl 34 _ _ rfl ((parts.length : Nat) : Int) rfl rfl Try.underlying34 (.agg #[(.int .i64 0), (.int .i64 0), (.int .i64 0)]) 24 info69 rfl (by decide) (by decide) (⟨0, 0, 0⟩ : Cb) (ok := fun _ => True) (okp := fun _ => True) (k69_mkM _ _ _ (⟨0, 0, 0⟩ : Cb)) (fun _ hk => hk) trivial (by omega) (by have := HL.out; omega) (Below.refl _ _) (Nat.le_refl _) ?_
        intro vA11 wA11 ho hb hg_ hn_
        clear hg_ hn_
        rw [Int.toNat_natCast] at ho
        have HZR_ := A0_ (Sp.made' HS.out hb ho)
        clear HS ho hb
        have HS := HZR_
        clear HZR_
        obtain ⟨AZ, cZ, eA_⟩ := Sp.slice HS.out (i := 0) rfl
        subst eA_
        have hcz_ := (Sp.reads HS.out (i := 0) rfl).2.1
        refine hK.out _ _ ((blk_cell (Sp.blk HS.out (i := 1) rfl).1 0).trans rfl) (fun hHeld => ?_)
        clear hK K
        refine nm_ (some 40) ?_
        refine o1_ 1 (some 36) (fun K hK => ?_)
        refine goes_ Try.func68 (by kernel_rfl) rfl #[.agg #[.slice Ap parts.length cp]] (by rfl) rfl rfl (by (try simp only [List.map_toArray, List.map_cons, List.map_nil]); first | done | rfl | (simp only [List.length_drop, List.length_take]; rfl)) ?_
        refine (newFrame_calls w0 Ap cp parts ([Res.row kC 69 w0.heap.size (.slice AZ (zerosC parts.length).length cZ) (zerosC parts.length), Res.blk ga #[.slice Ap parts.length cp] 32] ++ rest) _ HS.out).mono ?_
        rintro e wF ⟨gF, gM, rfl, hs_⟩
        refine ⟨_, rfl, ?_⟩
        have HS_ := A0_ (hs_)
        clear HS
        have HS := HS_
        clear HS_
        clear hs_
        refine hK.out _ _ ((blk_cell (Sp.blk HS.out (i := 3) rfl).1 0).trans rfl) (fun hHeld => ?_)
        clear hK K
        refine nm_ (some 36) ?_
        refine o1_ 6 (some 41) (fun K hK => ?_)
        have hzl_ : (zerosC parts.length).length = parts.length := List.length_replicate
        have hcl_ := clear_calls w0 Ap cp gF gM parts HF.out (Res.row kC 69 w0.heap.size (.slice AZ (zerosC parts.length).length cZ) (zerosC parts.length)) AZ cZ (zerosC parts.length) Rds.row hcz_ (by rw [hzl_]; exact Nat.le_refl _) ([Res.blk ga #[.slice Ap parts.length cp] 32] ++ rest) _ HS.out
        refine goes_ Try.func85 (by kernel_rfl) rfl #[.pointer (some ⟨gF, 0, none⟩), .slice AZ (zerosC parts.length).length cZ] (by rfl) rfl rfl (by (try simp only [List.map_toArray, List.map_cons, List.map_nil]); first | done | rfl | (simp only [List.length_drop, List.length_take]; rfl)) ?_
        refine hcl_.mono ?_
        rintro e wC ⟨rfl, hs_⟩
        refine ⟨_, rfl, ?_⟩
        have HS_ := A0_ (hs_)
        clear HS
        have HS := HS_
        clear HS_
        clear hs_ hcl_
        refine hK.out _ _ ((blk_cell (Sp.blk HS.out (i := 3) rfl).1 0).trans rfl) (fun hHeld => ?_)
        clear hK K
        refine nm_ (some 41) ?_
        refine on_ 7 (some 2) ?_
        refine dn_ ?_
        try go_wp2
        go_ret
        exact ⟨by rw [HALL.out]; rfl, Sp.out (Sp.out (Sp.out (Sp.out HS.out 3) 2) 1) 0⟩
end Go.Proofs.Ytlbckkagjekhnaa.A

/- impl.StatesOf, walked. -/
namespace Go.Proofs.Ytlbckkagjekhnaa.A
open Go.RowKit Go.Proofs.YtlbckkagjekhnaaW.PrintWords Go.Proofs.YtlbckkagjekhnaaW.PrintLast Go.Proofs.YtlbckkagjekhnaaW.PrintMore
set_option linter.unusedVariables false
set_option linter.unusedSimpArgs false
theorem visit_le {o : List Cb} {k : Int} {S S' : List Nd} {m : Int} (h : visitP o k S m = some S') : S.length ≤ S'.length := by
  unfold visitP at h
  split at h
  · injection h with h; subst h; exact Nat.le_refl _
  · split at h
    · injection h with h; subst h; exact Nat.le_refl _
    · split at h
      · cases h
      · injection h with h; subst h; rw [List.length_append]; omega
theorem spread_le {o : List Cb} {k : Int} : ∀ (ms : List Int) {S S' : List Nd}, ms.foldlM (visitP o k) S = some S' → S.length ≤ S'.length
  | [], S, S', h => by
    have : S = S' := Option.some.inj h
    subst this
    exact Nat.le_refl _
  | m :: ms, S, S', h => by
    rw [List.foldlM_cons] at h
    obtain ⟨T, h1, h2⟩ := Option.bind_eq_some_iff.1 h
    exact Nat.le_trans (visit_le h1) (spread_le ms h2)
end Go.Proofs.Ytlbckkagjekhnaa.A

namespace Go.Proofs.Ytlbckkagjekhnaa.A
open Go.RowKit Go.Proofs.YtlbckkagjekhnaaW.PrintWords Go.Proofs.YtlbckkagjekhnaaW.PrintLast Go.Proofs.YtlbckkagjekhnaaW.PrintMore
attribute [local go_sem] max2_int min2_int max_two min_two max_three min_three max_four min_four   -- for this text's walks alone
set_option linter.unusedVariables false
set_option linter.unusedSimpArgs false
def spec_l09Less.f (a0_0 : Int) (a0_1 : Int) (a0_2 : Int) (a1_0 : Int) (a1_1 : Int) (a1_2 : Int) : Option (Bool) := if a0_2 < a1_2 then (some true) else (if a0_2 = a1_2 then (if a0_1 < a1_1 then (some true) else (if a0_1 = a1_1 then (some (decide (a0_0 < a1_0))) else (some false))) else (some false))
set_option maxHeartbeats 8000000 in
set_option maxRecDepth 100000 in
theorem spec_l09Less.calls (a0_0 : Int) (a0_1 : Int) (a0_2 : Int) (a1_0 : Int) (a1_1 : Int) (a1_2 : Int) (r : Bool) (w : World) (h : spec_l09Less.f a0_0 a0_1 a0_2 a1_0 a1_1 a1_2 = some r) :
    Calls Try.prog 100 #[.agg #[.int .i64 a0_0, .int .i64 a0_1, .int .i64 a0_2], .agg #[.int .i64 a1_0, .int .i64 a1_1, .int .i64 a1_2]] w fun e w' => e = .returned (.bool r) ∧ Below w.heap.size w w' := by
 (have hu69 := Try.underlying69); (have HB := A0_ (Below.refl w.heap.size w)); (have H : (if a0_2 < a1_2 then (some true) else (if a0_2 = a1_2 then (if a0_1 < a1_1 then (some true) else (if a0_1 = a1_1 then (some (decide (a0_0 < a1_0))) else (some false))) else (some false))) = some r := h); clear h; (by_cases c3 : a0_2 < a1_2)
 ·(rw [if_pos c3] at H); (have c3b0 : decide (a0_2 < a1_2) = true := decide_eq_true c3); clear c3; (obtain rfl := Option.some.inj H); (go_enter Try.func100, Try.ntmps100); (go_wp2_with (first | ((with_reducible refine gate_dst (N := 2) rfl ?_); refine box_event ?hg (N := 2) ?hd (cs := #[.int .i64 a0_0, .int .i64 a0_1, .int .i64 a0_2]) (t := 69) ?hr ?_; (case hd => rfl); (case hg => rfl); (case hr => first | (go_simp; done) | (go_simp; rfl)); intro gb111 hg w4 hbox hb; have n0_ := A0_ (below_step (by repeat (first | (with_reducible first | exact HB.out | apply ba_ | apply bn_ | apply bd_) | exact HB.out)) hb); have n1_ := A0_ (hbox); have n2_ := A0_ ((by rw [hg]; exact (below_size (by repeat (first | (with_reducible first | exact HB.out | apply ba_ | apply bn_ | apply bd_) | exact HB.out))) : w.heap.size ≤ gb111)); have n3_ := A0_ ((by rw [hg]; exact (below_size (by repeat (first | (with_reducible first | exact HB.out | apply ba_ | apply bn_ | apply bd_) | exact HB.out))) : w.heap.size ≤ gb111)); clear HB; have HB := n0_; have BK111 := n1_; have GW111 := n2_; have GE111 := n3_; clear n0_ n1_ n2_ n3_; clear hb hbox hg) | ((with_reducible refine gate_dst (N := 3) rfl ?_); refine box_event ?hg (N := 3) ?hd (cs := #[.int .i64 a1_0, .int .i64 a1_1, .int .i64 a1_2]) (t := 69) ?hr ?_; (case hd => rfl); (case hg => rfl); (case hr => first | (go_simp; done) | (go_simp; rfl)); intro gb112 hg w5 hbox hb; have n0_ := A0_ (blk_below (g := gb111) (o := .cells #[.int .i64 a0_0, .int .i64 a0_1, .int .i64 a0_2] 69 (0, 0)) (by (with_reducible repeat (first | apply gn_ | apply gd_ | apply ga_)); exact BK111.out) hb); have n1_ := A0_ (below_step (by repeat (first | (with_reducible first | exact HB.out | apply ba_ | apply bn_ | apply bd_ | refine below_set ?_ GE111.out) | exact HB.out)) hb); have n2_ := A0_ (hbox); have n3_ := A0_ ((by rw [hg]; exact (below_size (by repeat (first | (with_reducible first | exact HB.out | apply ba_ | apply bn_ | apply bd_ | refine below_set ?_ GE111.out) | exact HB.out))) : w.heap.size ≤ gb112)); have n4_ := A0_ ((by rw [hg]; exact (below_size (by repeat (first | (with_reducible first | exact HB.out | apply ba_ | apply bn_ | apply bd_ | refine below_set ?_ GE111.out) | exact HB.out))) : w.heap.size ≤ gb112)); have n5_ := A0_ ((by rw [hg]; exact Nat.ne_of_lt (blk_lt (g := gb111) (o := .cells #[.int .i64 a0_0, .int .i64 a0_1, .int .i64 a0_2] 69 (0, 0)) (by (with_reducible repeat (first | apply gn_ | apply gd_ | apply ga_)); exact BK111.out)) : gb111 ≠ gb112)); have n6_ := A0_ ((by rw [hg]; exact Nat.ne_of_gt (blk_lt (g := gb111) (o := .cells #[.int .i64 a0_0, .int .i64 a0_1, .int .i64 a0_2] 69 (0, 0)) (by (with_reducible repeat (first | apply gn_ | apply gd_ | apply ga_)); exact BK111.out)) : gb112 ≠ gb111)); clear BK111; clear HB; have BK111 := n0_; have HB := n1_; have BK112 := n2_; have GW112 := n3_; have GE112 := n4_; have NB111_112 := n5_; have NB112_111 := n6_; clear n0_ n1_ n2_ n3_ n4_ n5_ n6_; clear hb hbox hg; have hnb6 := NB111_112.out; have hnc6 := NB112_111.out; have hcz7_0 : w5.cell? ⟨gb111, 0, none⟩ = some (.int .i64 a0_0) := (blk_cell BK111.out 0).trans rfl; have hcz7_1 : w5.cell? ⟨gb111, 1, none⟩ = some (.int .i64 a0_1) := (blk_cell BK111.out 1).trans rfl; have hcz7_2 : w5.cell? ⟨gb111, 2, none⟩ = some (.int .i64 a0_2) := (blk_cell BK111.out 2).trans rfl; have hfz7_0 := blk_frozen BK111.out 0; have hfz7_1 := blk_frozen BK111.out 1; have hfz7_2 := blk_frozen BK111.out 2; have hcz8_0 : w5.cell? ⟨gb112, 0, none⟩ = some (.int .i64 a1_0) := (blk_cell BK112.out 0).trans rfl; have hcz8_1 : w5.cell? ⟨gb112, 1, none⟩ = some (.int .i64 a1_1) := (blk_cell BK112.out 1).trans rfl; have hcz8_2 : w5.cell? ⟨gb112, 2, none⟩ = some (.int .i64 a1_2) := (blk_cell BK112.out 2).trans rfl; have hfz8_0 := blk_frozen BK112.out 0; have hfz8_1 := blk_frozen BK112.out 1; have hfz8_2 := blk_frozen BK112.out 2))); go_ret; (exact ⟨by first | rfl | (simp [errW_none, errW_some] <;> rfl) | (simp [*, errW_none, errW_some] <;> rfl), by repeat (first | (with_reducible first | exact HB.out | apply ba_ | apply bn_ | apply bd_ | refine below_set ?_ GE111.out | refine below_set ?_ GE112.out) | exact HB.out)⟩)
 ·(rw [if_neg c3] at H); (have c3b0 : decide (a0_2 < a1_2) = false := decide_eq_false c3); clear c3; (by_cases c9 : a0_2 = a1_2)
  ·(rw [if_pos c9] at H); (have c9b0 : (a0_2 == a1_2) = true := beq_iff_eq.mpr c9); (have c9b1 : (a0_2 != a1_2) = false := bne_eq_false_iff_eq.mpr c9); clear c9; (by_cases c10 : a0_1 < a1_1)
   ·(rw [if_pos c10] at H); (have c10b0 : decide (a0_1 < a1_1) = true := decide_eq_true c10); clear c10; (obtain rfl := Option.some.inj H); (go_enter Try.func100, Try.ntmps100); (go_wp2_with (first | ((with_reducible refine gate_dst (N := 2) rfl ?_); refine box_event ?hg (N := 2) ?hd (cs := #[.int .i64 a0_0, .int .i64 a0_1, .int .i64 a0_2]) (t := 69) ?hr ?_; (case hd => rfl); (case hg => rfl); (case hr => first | (go_simp; done) | (go_simp; rfl)); intro gb111 hg w11 hbox hb; have n0_ := A0_ (below_step (by repeat (first | (with_reducible first | exact HB.out | apply ba_ | apply bn_ | apply bd_) | exact HB.out)) hb); have n1_ := A0_ (hbox); have n2_ := A0_ ((by rw [hg]; exact (below_size (by repeat (first | (with_reducible first | exact HB.out | apply ba_ | apply bn_ | apply bd_) | exact HB.out))) : w.heap.size ≤ gb111)); have n3_ := A0_ ((by rw [hg]; exact (below_size (by repeat (first | (with_reducible first | exact HB.out | apply ba_ | apply bn_ | apply bd_) | exact HB.out))) : w.heap.size ≤ gb111)); clear HB; have HB := n0_; have BK111 := n1_; have GW111 := n2_; have GE111 := n3_; clear n0_ n1_ n2_ n3_; clear hb hbox hg) | ((with_reducible refine gate_dst (N := 3) rfl ?_); refine box_event ?hg (N := 3) ?hd (cs := #[.int .i64 a1_0, .int .i64 a1_1, .int .i64 a1_2]) (t := 69) ?hr ?_; (case hd => rfl); (case hg => rfl); (case hr => first | (go_simp; done) | (go_simp; rfl)); intro gb112 hg w12 hbox hb; have n0_ := A0_ (blk_below (g := gb111) (o := .cells #[.int .i64 a0_0, .int .i64 a0_1, .int .i64 a0_2] 69 (0, 0)) (by (with_reducible repeat (first | apply gn_ | apply gd_ | apply ga_)); exact BK111.out) hb); have n1_ := A0_ (below_step (by repeat (first | (with_reducible first | exact HB.out | apply ba_ | apply bn_ | apply bd_ | refine below_set ?_ GE111.out) | exact HB.out)) hb); have n2_ := A0_ (hbox); have n3_ := A0_ ((by rw [hg]; exact (below_size (by repeat (first | (with_reducible first | exact HB.out | apply ba_ | apply bn_ | apply bd_ | refine below_set ?_ GE111.out) | exact HB.out))) : w.heap.size ≤ gb112)); have n4_ := A0_ ((by rw [hg]; exact (below_size (by repeat (first | (with_reducible first | exact HB.out | apply ba_ | apply bn_ | apply bd_ | refine below_set ?_ GE111.out) | exact HB.out))) : w.heap.size ≤ gb112)); have n5_ := A0_ ((by rw [hg]; exact Nat.ne_of_lt (blk_lt (g := gb111) (o := .cells #[.int .i64 a0_0, .int .i64 a0_1, .int .i64 a0_2] 69 (0, 0)) (by (with_reducible repeat (first | apply gn_ | apply gd_ | apply ga_)); exact BK111.out)) : gb111 ≠ gb112)); have n6_ := A0_ ((by rw [hg]; exact Nat.ne_of_gt (blk_lt (g := gb111) (o := .cells #[.int .i64 a0_0, .int .i64 a0_1, .int .i64 a0_2] 69 (0, 0)) (by (with_reducible repeat (first | apply gn_ | apply gd_ | apply ga_)); exact BK111.out)) : gb112 ≠ gb111)); clear BK111; clear HB; have BK111 := n0_; have HB := n1_; have BK112 := n2_; have GW112 := n3_; have GE112 := n4_; have NB111_112 := n5_; have NB112_111 := n6_; clear n0_ n1_ n2_ n3_ n4_ n5_ n6_; clear hb hbox hg; have hnb13 := NB111_112.out; have hnc13 := NB112_111.out; have hcz14_0 : w12.cell? ⟨gb111, 0, none⟩ = some (.int .i64 a0_0) := (blk_cell BK111.out 0).trans rfl; have hcz14_1 : w12.cell? ⟨gb111, 1, none⟩ = some (.int .i64 a0_1) := (blk_cell BK111.out 1).trans rfl; have hcz14_2 : w12.cell? ⟨gb111, 2, none⟩ = some (.int .i64 a0_2) := (blk_cell BK111.out 2).trans rfl; have hfz14_0 := blk_frozen BK111.out 0; have hfz14_1 := blk_frozen BK111.out 1; have hfz14_2 := blk_frozen BK111.out 2; have hcz15_0 : w12.cell? ⟨gb112, 0, none⟩ = some (.int .i64 a1_0) := (blk_cell BK112.out 0).trans rfl; have hcz15_1 : w12.cell? ⟨gb112, 1, none⟩ = some (.int .i64 a1_1) := (blk_cell BK112.out 1).trans rfl; have hcz15_2 : w12.cell? ⟨gb112, 2, none⟩ = some (.int .i64 a1_2) := (blk_cell BK112.out 2).trans rfl; have hfz15_0 := blk_frozen BK112.out 0; have hfz15_1 := blk_frozen BK112.out 1; have hfz15_2 := blk_frozen BK112.out 2))); go_ret; (exact ⟨by first | rfl | (simp [errW_none, errW_some] <;> rfl) | (simp [*, errW_none, errW_some] <;> rfl), by repeat (first | (with_reducible first | exact HB.out | apply ba_ | apply bn_ | apply bd_ | refine below_set ?_ GE111.out | refine below_set ?_ GE112.out) | exact HB.out)⟩)
   ·(rw [if_neg c10] at H); (have c10b0 : decide (a0_1 < a1_1) = false := decide_eq_false c10); clear c10; (by_cases c16 : a0_1 = a1_1)
    ·(rw [if_pos c16] at H); (have c16b0 : (a0_1 == a1_1) = true := beq_iff_eq.mpr c16); (have c16b1 : (a0_1 != a1_1) = false := bne_eq_false_iff_eq.mpr c16); clear c16; (obtain rfl := Option.some.inj H); (go_enter Try.func100, Try.ntmps100); (go_wp2_with (first | ((with_reducible refine gate_dst (N := 2) rfl ?_); refine box_event ?hg (N := 2) ?hd (cs := #[.int .i64 a0_0, .int .i64 a0_1, .int .i64 a0_2]) (t := 69) ?hr ?_; (case hd => rfl); (case hg => rfl); (case hr => first | (go_simp; done) | (go_simp; rfl)); intro gb111 hg w17 hbox hb; have n0_ := A0_ (below_step (by repeat (first | (with_reducible first | exact HB.out | apply ba_ | apply bn_ | apply bd_) | exact HB.out)) hb); have n1_ := A0_ (hbox); have n2_ := A0_ ((by rw [hg]; exact (below_size (by repeat (first | (with_reducible first | exact HB.out | apply ba_ | apply bn_ | apply bd_) | exact HB.out))) : w.heap.size ≤ gb111)); have n3_ := A0_ ((by rw [hg]; exact (below_size (by repeat (first | (with_reducible first | exact HB.out | apply ba_ | apply bn_ | apply bd_) | exact HB.out))) : w.heap.size ≤ gb111)); clear HB; have HB := n0_; have BK111 := n1_; have GW111 := n2_; have GE111 := n3_; clear n0_ n1_ n2_ n3_; clear hb hbox hg) | ((with_reducible refine gate_dst (N := 3) rfl ?_); refine box_event ?hg (N := 3) ?hd (cs := #[.int .i64 a1_0, .int .i64 a1_1, .int .i64 a1_2]) (t := 69) ?hr ?_; (case hd => rfl); (case hg => rfl); (case hr => first | (go_simp; done) | (go_simp; rfl)); intro gb112 hg w18 hbox hb; have n0_ := A0_ (blk_below (g := gb111) (o := .cells #[.int .i64 a0_0, .int .i64 a0_1, .int .i64 a0_2] 69 (0, 0)) (by (with_reducible repeat (first | apply gn_ | apply gd_ | apply ga_)); exact BK111.out) hb); have n1_ := A0_ (below_step (by repeat (first | (with_reducible first | exact HB.out | apply ba_ | apply bn_ | apply bd_ | refine below_set ?_ GE111.out) | exact HB.out)) hb); have n2_ := A0_ (hbox); have n3_ := A0_ ((by rw [hg]; exact (below_size (by repeat (first | (with_reducible first | exact HB.out | apply ba_ | apply bn_ | apply bd_ | refine below_set ?_ GE111.out) | exact HB.out))) : w.heap.size ≤ gb112)); have n4_ := A0_ ((by rw [hg]; exact (below_size (by repeat (first | (with_reducible first | exact HB.out | apply ba_ | apply bn_ | apply bd_ | refine below_set ?_ GE111.out) | exact HB.out))) : w.heap.size ≤ gb112)); have n5_ := A0_ ((by rw [hg]; exact Nat.ne_of_lt (blk_lt (g := gb111) (o := .cells #[.int .i64 a0_0, .int .i64 a0_1, .int .i64 a0_2] 69 (0, 0)) (by (with_reducible repeat (first | apply gn_ | apply gd_ | apply ga_)); exact BK111.out)) : gb111 ≠ gb112)); have n6_ := A0_ ((by rw [hg]; exact Nat.ne_of_gt (blk_lt (g := gb111) (o := .cells #[.int .i64 a0_0, .int .i64 a0_1, .int .i64 a0_2] 69 (0, 0)) (by (with_reducible repeat (first | apply gn_ | apply gd_ | apply ga_)); exact BK111.out)) : gb112 ≠ gb111)); clear BK111; clear HB; have BK111 := n0_; have HB := n1_; have BK112 := n2_; have GW112 := n3_; have GE112 := n4_; have NB111_112 := n5_; have NB112_111 := n6_; clear n0_ n1_ n2_ n3_ n4_ n5_ n6_; clear hb hbox hg; have hnb19 := NB111_112.out; have hnc19 := NB112_111.out; have hcz20_0 : w18.cell? ⟨gb111, 0, none⟩ = some (.int .i64 a0_0) := (blk_cell BK111.out 0).trans rfl; have hcz20_1 : w18.cell? ⟨gb111, 1, none⟩ = some (.int .i64 a0_1) := (blk_cell BK111.out 1).trans rfl; have hcz20_2 : w18.cell? ⟨gb111, 2, none⟩ = some (.int .i64 a0_2) := (blk_cell BK111.out 2).trans rfl; have hfz20_0 := blk_frozen BK111.out 0; have hfz20_1 := blk_frozen BK111.out 1; have hfz20_2 := blk_frozen BK111.out 2; have hcz21_0 : w18.cell? ⟨gb112, 0, none⟩ = some (.int .i64 a1_0) := (blk_cell BK112.out 0).trans rfl; have hcz21_1 : w18.cell? ⟨gb112, 1, none⟩ = some (.int .i64 a1_1) := (blk_cell BK112.out 1).trans rfl; have hcz21_2 : w18.cell? ⟨gb112, 2, none⟩ = some (.int .i64 a1_2) := (blk_cell BK112.out 2).trans rfl; have hfz21_0 := blk_frozen BK112.out 0; have hfz21_1 := blk_frozen BK112.out 1; have hfz21_2 := blk_frozen BK112.out 2))); go_ret; (exact ⟨by first | rfl | (simp [errW_none, errW_some] <;> rfl) | (simp [*, errW_none, errW_some] <;> rfl), by repeat (first | (with_reducible first | exact HB.out | apply ba_ | apply bn_ | apply bd_ | refine below_set ?_ GE111.out | refine below_set ?_ GE112.out) | exact HB.out)⟩)
    ·(rw [if_neg c16] at H); (have c16b0 : (a0_1 == a1_1) = false := beq_eq_false_iff_ne.mpr c16); (have c16b1 : (a0_1 != a1_1) = true := bne_iff_ne.mpr c16); (obtain rfl := Option.some.inj H); (go_enter Try.func100, Try.ntmps100); (go_wp2_with (first | ((with_reducible refine gate_dst (N := 2) rfl ?_); refine box_event ?hg (N := 2) ?hd (cs := #[.int .i64 a0_0, .int .i64 a0_1, .int .i64 a0_2]) (t := 69) ?hr ?_; (case hd => rfl); (case hg => rfl); (case hr => first | (go_simp; done) | (go_simp; rfl)); intro gb111 hg w22 hbox hb; have n0_ := A0_ (below_step (by repeat (first | (with_reducible first | exact HB.out | apply ba_ | apply bn_ | apply bd_) | exact HB.out)) hb); have n1_ := A0_ (hbox); have n2_ := A0_ ((by rw [hg]; exact (below_size (by repeat (first | (with_reducible first | exact HB.out | apply ba_ | apply bn_ | apply bd_) | exact HB.out))) : w.heap.size ≤ gb111)); have n3_ := A0_ ((by rw [hg]; exact (below_size (by repeat (first | (with_reducible first | exact HB.out | apply ba_ | apply bn_ | apply bd_) | exact HB.out))) : w.heap.size ≤ gb111)); clear HB; have HB := n0_; have BK111 := n1_; have GW111 := n2_; have GE111 := n3_; clear n0_ n1_ n2_ n3_; clear hb hbox hg) | ((with_reducible refine gate_dst (N := 3) rfl ?_); refine box_event ?hg (N := 3) ?hd (cs := #[.int .i64 a1_0, .int .i64 a1_1, .int .i64 a1_2]) (t := 69) ?hr ?_; (case hd => rfl); (case hg => rfl); (case hr => first | (go_simp; done) | (go_simp; rfl)); intro gb112 hg w23 hbox hb; have n0_ := A0_ (blk_below (g := gb111) (o := .cells #[.int .i64 a0_0, .int .i64 a0_1, .int .i64 a0_2] 69 (0, 0)) (by (with_reducible repeat (first | apply gn_ | apply gd_ | apply ga_)); exact BK111.out) hb); have n1_ := A0_ (below_step (by repeat (first | (with_reducible first | exact HB.out | apply ba_ | apply bn_ | apply bd_ | refine below_set ?_ GE111.out) | exact HB.out)) hb); have n2_ := A0_ (hbox); have n3_ := A0_ ((by rw [hg]; exact (below_size (by repeat (first | (with_reducible first | exact HB.out | apply ba_ | apply bn_ | apply bd_ | refine below_set ?_ GE111.out) | exact HB.out))) : w.heap.size ≤ gb112)); have n4_ := A0_ ((by rw [hg]; exact (below_size (by repeat (first | (with_reducible first | exact HB.out | apply ba_ | apply bn_ | apply bd_ | refine below_set ?_ GE111.out) | exact HB.out))) : w.heap.size ≤ gb112)); have n5_ := A0_ ((by rw [hg]; exact Nat.ne_of_lt (blk_lt (g := gb111) (o := .cells #[.int .i64 a0_0, .int .i64 a0_1, .int .i64 a0_2] 69 (0, 0)) (by (with_reducible repeat (first | apply gn_ | apply gd_ | apply ga_)); exact BK111.out)) : gb111 ≠ gb112)); have n6_ := A0_ ((by rw [hg]; exact Nat.ne_of_gt (blk_lt (g := gb111) (o := .cells #[.int .i64 a0_0, .int .i64 a0_1, .int .i64 a0_2] 69 (0, 0)) (by (with_reducible repeat (first | apply gn_ | apply gd_ | apply ga_)); exact BK111.out)) : gb112 ≠ gb111)); clear BK111; clear HB; have BK111 := n0_; have HB := n1_; have BK112 := n2_; have GW112 := n3_; have GE112 := n4_; have NB111_112 := n5_; have NB112_111 := n6_; clear n0_ n1_ n2_ n3_ n4_ n5_ n6_; clear hb hbox hg; have hnb24 := NB111_112.out; have hnc24 := NB112_111.out; have hcz25_0 : w23.cell? ⟨gb111, 0, none⟩ = some (.int .i64 a0_0) := (blk_cell BK111.out 0).trans rfl; have hcz25_1 : w23.cell? ⟨gb111, 1, none⟩ = some (.int .i64 a0_1) := (blk_cell BK111.out 1).trans rfl; have hcz25_2 : w23.cell? ⟨gb111, 2, none⟩ = some (.int .i64 a0_2) := (blk_cell BK111.out 2).trans rfl; have hfz25_0 := blk_frozen BK111.out 0; have hfz25_1 := blk_frozen BK111.out 1; have hfz25_2 := blk_frozen BK111.out 2; have hcz26_0 : w23.cell? ⟨gb112, 0, none⟩ = some (.int .i64 a1_0) := (blk_cell BK112.out 0).trans rfl; have hcz26_1 : w23.cell? ⟨gb112, 1, none⟩ = some (.int .i64 a1_1) := (blk_cell BK112.out 1).trans rfl; have hcz26_2 : w23.cell? ⟨gb112, 2, none⟩ = some (.int .i64 a1_2) := (blk_cell BK112.out 2).trans rfl; have hfz26_0 := blk_frozen BK112.out 0; have hfz26_1 := blk_frozen BK112.out 1; have hfz26_2 := blk_frozen BK112.out 2))); go_ret; (exact ⟨by first | rfl | (simp [errW_none, errW_some] <;> rfl) | (simp [*, errW_none, errW_some] <;> rfl), by repeat (first | (with_reducible first | exact HB.out | apply ba_ | apply bn_ | apply bd_ | refine below_set ?_ GE111.out | refine below_set ?_ GE112.out) | exact HB.out)⟩)
  ·(rw [if_neg c9] at H); (have c9b0 : (a0_2 == a1_2) = false := beq_eq_false_iff_ne.mpr c9); (have c9b1 : (a0_2 != a1_2) = true := bne_iff_ne.mpr c9); (obtain rfl := Option.some.inj H); (go_enter Try.func100, Try.ntmps100); (go_wp2_with (first | ((with_reducible refine gate_dst (N := 2) rfl ?_); refine box_event ?hg (N := 2) ?hd (cs := #[.int .i64 a0_0, .int .i64 a0_1, .int .i64 a0_2]) (t := 69) ?hr ?_; (case hd => rfl); (case hg => rfl); (case hr => first | (go_simp; done) | (go_simp; rfl)); intro gb111 hg w27 hbox hb; have n0_ := A0_ (below_step (by repeat (first | (with_reducible first | exact HB.out | apply ba_ | apply bn_ | apply bd_) | exact HB.out)) hb); have n1_ := A0_ (hbox); have n2_ := A0_ ((by rw [hg]; exact (below_size (by repeat (first | (with_reducible first | exact HB.out | apply ba_ | apply bn_ | apply bd_) | exact HB.out))) : w.heap.size ≤ gb111)); have n3_ := A0_ ((by rw [hg]; exact (below_size (by repeat (first | (with_reducible first | exact HB.out | apply ba_ | apply bn_ | apply bd_) | exact HB.out))) : w.heap.size ≤ gb111)); clear HB; have HB := n0_; have BK111 := n1_; have GW111 := n2_; have GE111 := n3_; clear n0_ n1_ n2_ n3_; clear hb hbox hg) | ((with_reducible refine gate_dst (N := 3) rfl ?_); refine box_event ?hg (N := 3) ?hd (cs := #[.int .i64 a1_0, .int .i64 a1_1, .int .i64 a1_2]) (t := 69) ?hr ?_; (case hd => rfl); (case hg => rfl); (case hr => first | (go_simp; done) | (go_simp; rfl)); intro gb112 hg w28 hbox hb; have n0_ := A0_ (blk_below (g := gb111) (o := .cells #[.int .i64 a0_0, .int .i64 a0_1, .int .i64 a0_2] 69 (0, 0)) (by (with_reducible repeat (first | apply gn_ | apply gd_ | apply ga_)); exact BK111.out) hb); have n1_ := A0_ (below_step (by repeat (first | (with_reducible first | exact HB.out | apply ba_ | apply bn_ | apply bd_ | refine below_set ?_ GE111.out) | exact HB.out)) hb); have n2_ := A0_ (hbox); have n3_ := A0_ ((by rw [hg]; exact (below_size (by repeat (first | (with_reducible first | exact HB.out | apply ba_ | apply bn_ | apply bd_ | refine below_set ?_ GE111.out) | exact HB.out))) : w.heap.size ≤ gb112)); have n4_ := A0_ ((by rw [hg]; exact (below_size (by repeat (first | (with_reducible first | exact HB.out | apply ba_ | apply bn_ | apply bd_ | refine below_set ?_ GE111.out) | exact HB.out))) : w.heap.size ≤ gb112)); have n5_ := A0_ ((by rw [hg]; exact Nat.ne_of_lt (blk_lt (g := gb111) (o := .cells #[.int .i64 a0_0, .int .i64 a0_1, .int .i64 a0_2] 69 (0, 0)) (by (with_reducible repeat (first | apply gn_ | apply gd_ | apply ga_)); exact BK111.out)) : gb111 ≠ gb112)); have n6_ := A0_ ((by rw [hg]; exact Nat.ne_of_gt (blk_lt (g := gb111) (o := .cells #[.int .i64 a0_0, .int .i64 a0_1, .int .i64 a0_2] 69 (0, 0)) (by (with_reducible repeat (first | apply gn_ | apply gd_ | apply ga_)); exact BK111.out)) : gb112 ≠ gb111)); clear BK111; clear HB; have BK111 := n0_; have HB := n1_; have BK112 := n2_; have GW112 := n3_; have GE112 := n4_; have NB111_112 := n5_; have NB112_111 := n6_; clear n0_ n1_ n2_ n3_ n4_ n5_ n6_; clear hb hbox hg; have hnb29 := NB111_112.out; have hnc29 := NB112_111.out; have hcz30_0 : w28.cell? ⟨gb111, 0, none⟩ = some (.int .i64 a0_0) := (blk_cell BK111.out 0).trans rfl; have hcz30_1 : w28.cell? ⟨gb111, 1, none⟩ = some (.int .i64 a0_1) := (blk_cell BK111.out 1).trans rfl; have hcz30_2 : w28.cell? ⟨gb111, 2, none⟩ = some (.int .i64 a0_2) := (blk_cell BK111.out 2).trans rfl; have hfz30_0 := blk_frozen BK111.out 0; have hfz30_1 := blk_frozen BK111.out 1; have hfz30_2 := blk_frozen BK111.out 2; have hcz31_0 : w28.cell? ⟨gb112, 0, none⟩ = some (.int .i64 a1_0) := (blk_cell BK112.out 0).trans rfl; have hcz31_1 : w28.cell? ⟨gb112, 1, none⟩ = some (.int .i64 a1_1) := (blk_cell BK112.out 1).trans rfl; have hcz31_2 : w28.cell? ⟨gb112, 2, none⟩ = some (.int .i64 a1_2) := (blk_cell BK112.out 2).trans rfl; have hfz31_0 := blk_frozen BK112.out 0; have hfz31_1 := blk_frozen BK112.out 1; have hfz31_2 := blk_frozen BK112.out 2))); go_ret; (exact ⟨by first | rfl | (simp [errW_none, errW_some] <;> rfl) | (simp [*, errW_none, errW_some] <;> rfl), by repeat (first | (with_reducible first | exact HB.out | apply ba_ | apply bn_ | apply bd_ | refine below_set ?_ GE111.out | refine below_set ?_ GE112.out) | exact HB.out)⟩)
end Go.Proofs.Ytlbckkagjekhnaa.A

namespace Go.Proofs.Ytlbckkagjekhnaa.A
open Go.RowKit Go.Proofs.YtlbckkagjekhnaaW.PrintWords Go.Proofs.YtlbckkagjekhnaaW.PrintLast Go.Proofs.YtlbckkagjekhnaaW.PrintMore
attribute [local go_sem] max2_int min2_int max_two min_two max_three min_three max_four min_four   -- for this text's walks alone
set_option linter.unusedVariables false
set_option linter.unusedSimpArgs false
def spec_l09Compare.l0 : Nat → List (S69) → List (S69) → Int → Option (Int)
  | 0, _, _, _ => none
  | k + 1, x0, x1, x5 => if x5 < (x0.length : Int) then (if 0 ≤ x5 then (if x5 < (x1.length : Int) then ((spec_l09Less.f ((rd_T69 x0 x5).f0) ((rd_T69 x0 x5).f1) ((rd_T69 x0 x5).f2) ((rd_T69 x1 x5).f0) ((rd_T69 x1 x5).f1) ((rd_T69 x1 x5).f2)).bind fun t431 => (if t431 = true then (some (-1)) else ((spec_l09Less.f ((rd_T69 x1 x5).f0) ((rd_T69 x1 x5).f1) ((rd_T69 x1 x5).f2) ((rd_T69 x0 x5).f0) ((rd_T69 x0 x5).f1) ((rd_T69 x0 x5).f2)).bind fun t434 => (if t434 = true then (some 1) else (spec_l09Compare.l0 k x0 x1 (wrap64 (x5 + 1))))))) else (none)) else (none)) else (some 0)
def spec_l09Compare.f (k : Nat) (l0 : List (S69)) (l1 : List (S69)) : Option (Int) := if (l0.length : Int) = (l1.length : Int) then (spec_l09Compare.l0 k l0 l1 0) else (if (l0.length : Int) < (l1.length : Int) then (some (-1)) else (some 1))
def spec_l09Compare.T8 : Bool × List (List Nat × List Nat) := (true, [([], []), ([], []), ([0, 1], [0, 1]), ([2], [2]), ([], []), ([], []), ([4, 5], [4, 5]), ([6], [6]), ([3, 7], [3, 7])])
def spec_l09Compare.B8 : List Nat := [0, 0, 3, 7, 0, 0, 48, 112, 255]
theorem spec_l09Compare.tab8 : rtab .any (opsOf Try.f124 8) = spec_l09Compare.T8 := by kernel_rfl
theorem spec_l09Compare.bits8 : waitsOk spec_l09Compare.T8.2 spec_l09Compare.B8 = true := by kernel_rfl
def spec_l09Compare.T10 : Bool × List (List Nat × List Nat) := (true, [([], []), ([], []), ([0, 1], [0, 1]), ([2], [2]), ([], []), ([], []), ([4, 5], [4, 5]), ([6], [6]), ([3, 7], [3, 7])])
def spec_l09Compare.B10 : List Nat := [0, 0, 3, 7, 0, 0, 48, 112, 255]
theorem spec_l09Compare.tab10 : rtab .any (opsOf Try.f124 10) = spec_l09Compare.T10 := by kernel_rfl
theorem spec_l09Compare.bits10 : waitsOk spec_l09Compare.T10.2 spec_l09Compare.B10 = true := by kernel_rfl
set_option maxHeartbeats 8000000 in
set_option maxRecDepth 100000 in
theorem spec_l09Compare.calls (k : Nat) (A0 : Option Addr) (c0 : Nat) (l0 : List (S69)) (A1 : Option Addr) (c1 : Nat) (l1 : List (S69)) (r : Int) (w : World) (hr0 : Kd.C k69 w A0 l0.length l0) (hc0 : l0.length ≤ c0) (hr1 : Kd.C k69 w A1 l1.length l1) (hc1 : l1.length ≤ c1) (h : spec_l09Compare.f k l0 l1 = some r) :
    Calls Try.prog 124 #[.slice A0 l0.length c0, .slice A1 l1.length c1] w fun e w' => e = .returned (.int .i64 r) ∧ Below w.heap.size w w' := by
 (have hu69 := Try.underlying69); (have HR0 := A0_ hr0); (have HC0 := A0_ hc0); clear hr0 hc0; (have HR1 := A0_ hr1); (have HC1 := A0_ hc1); clear hr1 hc1; (have HB := A0_ (Below.refl w.heap.size w)); (have H : (if (l0.length : Int) = (l1.length : Int) then (spec_l09Compare.l0 k l0 l1 0) else (if (l0.length : Int) < (l1.length : Int) then (some (-1)) else (some 1))) = some r := h); clear h; (by_cases c3 : (l0.length : Int) = (l1.length : Int))
 ·(rw [if_pos c3] at H); (have c3b0 : ((l0.length : Int) == (l1.length : Int)) = true := beq_iff_eq.mpr c3); (have c3b1 : ((l0.length : Int) != (l1.length : Int)) = false := bne_eq_false_iff_eq.mpr c3); (have c3b2 : (l0.length == l1.length) = true := by first | simpa using c3 | (simp at c3 ⊢; omega)); clear c3; (have H' := A0_ H); clear H; (go_enter Try.func124, Try.ntmps124); go_wp2
  go_loopg [5] k (fun kq v5 w' => ∃ (x5_1 : Int), v5 = .int .i64 x5_1 ∧ Aside0 (spec_l09Compare.l0 kq l0 l1 x5_1 = some r) ∧ Aside0 (kq ≤ k) ∧ Aside0 (Below w.heap.size w w'))
  case atStart => exact ⟨(0), (by first | rfl | (simp; done) | (simp [*]; done)), H', ⟨Nat.le_refl _⟩, ⟨by repeat (first | (with_reducible first | exact HB.out | apply ba_ | apply bn_ | apply bd_) | exact HB.out)⟩⟩
  case round =>
   clear H'; (try clear c1); (try clear p2); (try clear c3); (try clear c3b0); (try clear c3b1); (try clear c3b2); (obtain ⟨x5_1, rfl, HA, HK1, HB⟩ := hrel)
   cases gk with
   | zero => exact absurd HA.out (by simp [spec_l09Compare.l0])
   | succ k1 =>
    (have H := HA.out); clear HA; (simp only [spec_l09Compare.l0] at H); (by_cases c4 : x5_1 < (l0.length : Int))
    ·(rw [if_pos c4] at H); (have c4b0 : decide (x5_1 < (l0.length : Int)) = true := decide_eq_true c4); clear c4; (by_cases c5 : 0 ≤ x5_1)
     ·(rw [if_pos c5] at H); (have c5b0 : decide (0 ≤ x5_1) = true := decide_eq_true c5); clear c5; (by_cases c6 : x5_1 < (l1.length : Int))
      ·(rw [if_pos c6] at H); (have c6b0 : decide (x5_1 < (l1.length : Int)) = true := decide_eq_true c6); clear c6; (replace H := Option.bind_eq_some_iff.mp H); (obtain ⟨t431, A70, H⟩ := H); (try dsimp only at H); (have A7 := A0_ A70); clear A70; (by_cases c8 : t431 = true)
       ·subst c8; (have H1 := H); (rw [if_pos rfl] at H1); clear H; (have H := H1); clear H1; (obtain rfl := Option.some.inj H); (try go_wp2); (have n0_ := A0_ (below_drew1 HB.out)); clear HB; (have HB := n0_); clear n0_; (have p429 : 0 ≤ (x5_1 : Int) := of_decide_eq_true (by first | (with_reducible assumption) | assumption)); (have q429 : x5_1 < (l0.length : Int) := of_decide_eq_true (by first | (with_reducible assumption) | assumption)); (obtain ⟨ad429, e429, hx429_0, hx429_1, hx429_2⟩ := at_T69 HR0.out x5_1 p429 q429); (have hw429_2 := hx429_2); (have hw429_1 := hx429_1); (have hw429_0 := hx429_0); (cases e429); (replace hx429_0 := (HB.out.cell (World.block_lt_of_cell? w _ hx429_0)).trans hx429_0); (replace hx429_1 := (HB.out.cell (World.block_lt_of_cell? w _ hx429_1)).trans hx429_1); (replace hx429_2 := (HB.out.cell (World.block_lt_of_cell? w _ hx429_2)).trans hx429_2); (replace p429 := eq_true p429); (replace q429 := eq_true q429); (have p430 : 0 ≤ (x5_1 : Int) := of_decide_eq_true (by first | (with_reducible assumption) | assumption)); (have q430 : x5_1 < (l1.length : Int) := of_decide_eq_true (by first | (with_reducible assumption) | assumption)); (obtain ⟨ad430, e430, hx430_0, hx430_1, hx430_2⟩ := at_T69 HR1.out x5_1 p430 q430); (have hw430_2 := hx430_2); (have hw430_1 := hx430_1); (have hw430_0 := hx430_0); (cases e430); (replace hx430_0 := (HB.out.cell (World.block_lt_of_cell? w _ hx430_0)).trans hx430_0); (replace hx430_1 := (HB.out.cell (World.block_lt_of_cell? w _ hx430_1)).trans hx430_1); (replace hx430_2 := (HB.out.cell (World.block_lt_of_cell? w _ hx430_2)).trans hx430_2); (replace p430 := eq_true p430); (replace q430 := eq_true q430)
        refine start_ (n := 9) (S := fun w' => w'.cell? (ad429.add ((x5_1).toNat * 3)) = some (.int .i64 ((rd_T69 l0 x5_1).f0)) ∧ w'.cell? ⟨(ad429.add ((x5_1).toNat * 3)).block, (ad429.add ((x5_1).toNat * 3)).off + 1, none⟩ = some (.int .i64 ((rd_T69 l0 x5_1).f1)) ∧ w'.cell? ⟨(ad429.add ((x5_1).toNat * 3)).block, (ad429.add ((x5_1).toNat * 3)).off + 2, none⟩ = some (.int .i64 ((rd_T69 l0 x5_1).f2)) ∧ w'.cell? (ad430.add ((x5_1).toNat * 3)) = some (.int .i64 ((rd_T69 l1 x5_1).f0)) ∧ w'.cell? ⟨(ad430.add ((x5_1).toNat * 3)).block, (ad430.add ((x5_1).toNat * 3)).off + 1, none⟩ = some (.int .i64 ((rd_T69 l1 x5_1).f1)) ∧ w'.cell? ⟨(ad430.add ((x5_1).toNat * 3)).block, (ad430.add ((x5_1).toNat * 3)).off + 2, none⟩ = some (.int .i64 ((rd_T69 l1 x5_1).f2))) (ds := []) #[ff,ff,ff,ff,ff,ff,ff,ff,ff] (by kernel_rfl) rfl rfl ⟨((HB.out.cell (World.block_lt_of_cell? w _ hw429_0)).trans hw429_0), ((HB.out.cell (World.block_lt_of_cell? w _ hw429_1)).trans hw429_1), ((HB.out.cell (World.block_lt_of_cell? w _ hw429_2)).trans hw429_2), ((HB.out.cell (World.block_lt_of_cell? w _ hw430_0)).trans hw430_0), ((HB.out.cell (World.block_lt_of_cell? w _ hw430_1)).trans hw430_1), ((HB.out.cell (World.block_lt_of_cell? w _ hw430_2)).trans hw430_2)⟩ (fun hHeld => ?_); refine with_tabW spec_l09Compare.tab8 spec_l09Compare.bits8 (fun HT_ HW_ => ?_)
        (generalize wr.drew = w9 at HB hx429_0 hx429_1 hx429_2 hx430_0 hx430_1 hx430_2 hHeld ⊢)
        refine pure_ (i := 0) (N := some 22) (v := ?_) (a' := ?_) #[tt,ff,ff,ff,ff,ff,ff,ff,ff] rfl rfl (any_of HT_.out (by kernel_rfl)) (fun _ _ _ h => h) (Or.inl ⟨by rfl, ?_⟩) ?_ ?_
        rotate_left
        ·intro w'; go_simp; with_reducible rfl
        rotate_left
        ·(simp only [Act.put, sia_, sz_, ss_, i64_w, i32_w]); rfl
        refine pure_ (i := 1) (N := some 23) (v := ?_) (a' := ?_) #[tt,tt,ff,ff,ff,ff,ff,ff,ff] rfl rfl (any_of HT_.out (by kernel_rfl)) (fun _ _ _ h => h) (Or.inl ⟨by rfl, ?_⟩) ?_ ?_
        rotate_left
        ·intro w'; go_simp; with_reducible rfl
        rotate_left
        ·(simp only [Act.put, sia_, sz_, ss_, i64_w, i32_w]); rfl
        refine pure_ (i := 2) (N := some 24) (v := ?_) (a' := ?_) #[tt,tt,tt,ff,ff,ff,ff,ff,ff] rfl rfl (any_of HT_.out (by kernel_rfl)) (fun _ _ _ h => h) (Or.inl ⟨by rfl, ?_⟩) ?_ ?_
        rotate_left
        ·intro w'; go_simp; with_reducible rfl
        rotate_left
        ·(simp only [Act.put, sia_, sz_, ss_, i64_w, i32_w]); rfl
        refine pure_ (i := 4) (N := some 26) (v := ?_) (a' := ?_) #[tt,tt,tt,ff,tt,ff,ff,ff,ff] rfl rfl (any_of HT_.out (by kernel_rfl)) (fun _ _ _ h => h) (Or.inl ⟨by rfl, ?_⟩) ?_ ?_
        rotate_left
        ·intro w'; go_simp; with_reducible rfl
        rotate_left
        ·(simp only [Act.put, sia_, sz_, ss_, i64_w, i32_w]); rfl
        refine pure_ (i := 5) (N := some 27) (v := ?_) (a' := ?_) #[tt,tt,tt,ff,tt,tt,ff,ff,ff] rfl rfl (any_of HT_.out (by kernel_rfl)) (fun _ _ _ h => h) (Or.inl ⟨by rfl, ?_⟩) ?_ ?_
        rotate_left
        ·intro w'; go_simp; with_reducible rfl
        rotate_left
        ·(simp only [Act.put, sia_, sz_, ss_, i64_w, i32_w]); rfl
        refine pure_ (i := 6) (N := some 28) (v := ?_) (a' := ?_) #[tt,tt,tt,ff,tt,tt,tt,ff,ff] rfl rfl (any_of HT_.out (by kernel_rfl)) (fun _ _ _ h => h) (Or.inl ⟨by rfl, ?_⟩) ?_ ?_
        rotate_left
        ·intro w'; go_simp; with_reducible rfl
        rotate_left
        ·(simp only [Act.put, sia_, sz_, ss_, i64_w, i32_w]); rfl
        refine take_ (i := 3) (N := some 25) (v := ?_) (a' := ?_) #[tt,tt,tt,tt,tt,tt,tt,ff,ff] rfl rfl (take_ofW HT_.out HW_.out (by kernel_rfl)) (fun _ _ _ h => h) (Or.inl ⟨by rfl, ?_⟩) hHeld ?_ ?_
        rotate_left
        ·(rintro w' ⟨s0, s1, s2, s3, s4, s5⟩); go_simp; with_reducible rfl
        rotate_left
        ·(simp only [Act.put, sia_, sz_, ss_, i64_w, i32_w]); rfl
        refine take_ (i := 7) (N := some 29) (v := ?_) (a' := ?_) #[tt,tt,tt,tt,tt,tt,tt,tt,ff] rfl rfl (take_ofW HT_.out HW_.out (by kernel_rfl)) (fun _ _ _ h => h) (Or.inl ⟨by rfl, ?_⟩) hHeld ?_ ?_
        rotate_left
        ·(rintro w' ⟨s0, s1, s2, s3, s4, s5⟩); go_simp; with_reducible rfl
        rotate_left
        ·(simp only [Act.put, sia_, sz_, ss_, i64_w, i32_w]); rfl
        refine one_ (i := 8) (N := some 30) #[tt,tt,tt,tt,tt,tt,tt,tt,tt] rfl rfl (one_of HT_.out (by kernel_rfl)) (by decide) (fun K hK => ?_)
        (refine goes_ Try.func100 (by kernel_rfl) rfl #[.agg #[.int .i64 ((rd_T69 l0 x5_1).f0), .int .i64 ((rd_T69 l0 x5_1).f1), .int .i64 ((rd_T69 l0 x5_1).f2)], .agg #[.int .i64 ((rd_T69 l1 x5_1).f0), .int .i64 ((rd_T69 l1 x5_1).f1), .int .i64 ((rd_T69 l1 x5_1).f2)]] (by rfl) rfl rfl (by (try simp only [List.map_toArray, List.map_cons, List.map_nil]); first | done | rfl | (simp only [List.length_drop, List.length_take]; rfl)) ?_); (with_reducible refine (spec_l09Less.calls ((rd_T69 l0 x5_1).f0) ((rd_T69 l0 x5_1).f1) ((rd_T69 l0 x5_1).f2) ((rd_T69 l1 x5_1).f0) ((rd_T69 l1 x5_1).f1) ((rd_T69 l1 x5_1).f2) true _ A7.out).mono ?_); (rintro e w10 ⟨rfl, hb⟩); (refine ⟨_, rfl, ?_⟩); (have n0_ := A0_ (below_step (by repeat (first | (with_reducible first | exact HB.out | apply ba_ | apply bn_ | apply bd_) | exact HB.out)) hb)); clear HB; (have HB := n0_); clear n0_; ((try clear hb)); ((try clear hb2)); ((try clear hk)); ((try clear hi))
        refine hK.out _ _ ⟨((HB.out.cell (World.block_lt_of_cell? w _ hw429_0)).trans hw429_0), ((HB.out.cell (World.block_lt_of_cell? w _ hw429_1)).trans hw429_1), ((HB.out.cell (World.block_lt_of_cell? w _ hw429_2)).trans hw429_2), ((HB.out.cell (World.block_lt_of_cell? w _ hw430_0)).trans hw430_0), ((HB.out.cell (World.block_lt_of_cell? w _ hw430_1)).trans hw430_1), ((HB.out.cell (World.block_lt_of_cell? w _ hw430_2)).trans hw430_2)⟩ (fun hHeld => ?_)
        clear hK K; (refine norm_ (a' := ?_) ?_ ?_); rotate_left
        ·(show Act.put _ (some 30) _ = _); (simp only [Act.put, sia_, sz_, ss_, i64_w, i32_w]); rfl
        (refine done_ (done_of HT_.out (by kernel_rfl)) ?_); (try go_wp2); go_ret; (exact ⟨by first | rfl | (simp [errW_none, errW_some] <;> rfl) | (simp [*, errW_none, errW_some] <;> rfl), by repeat (first | (with_reducible first | exact HB.out | apply ba_ | apply bn_ | apply bd_) | exact HB.out)⟩)
       ·(replace c8 := Bool.eq_false_iff.mpr c8); subst c8
        have H1 : ((spec_l09Less.f ((rd_T69 l1 x5_1).f0) ((rd_T69 l1 x5_1).f1) ((rd_T69 l1 x5_1).f2) ((rd_T69 l0 x5_1).f0) ((rd_T69 l0 x5_1).f1) ((rd_T69 l0 x5_1).f2)).bind fun t434 => (if t434 = true then (some 1) else (spec_l09Compare.l0 k1 l0 l1 (wrap64 (x5_1 + 1))))) = some r := by rw [if_neg (show ¬ (false = true) by decide)] at H; exact H
        clear H; (have H := H1); clear H1; (replace H := Option.bind_eq_some_iff.mp H); (obtain ⟨t434, A110, H⟩ := H); (try dsimp only at H); (have A11 := A0_ A110); clear A110; (by_cases c12 : t434 = true)
        ·subst c12; (have H1 := H); (rw [if_pos rfl] at H1); clear H; (have H := H1); clear H1; (obtain rfl := Option.some.inj H); (try go_wp2); (have n0_ := A0_ (below_drew1 HB.out)); clear HB; (have HB := n0_); clear n0_; (have p429 : 0 ≤ (x5_1 : Int) := of_decide_eq_true (by first | (with_reducible assumption) | assumption)); (have q429 : x5_1 < (l0.length : Int) := of_decide_eq_true (by first | (with_reducible assumption) | assumption)); (obtain ⟨ad429, e429, hx429_0, hx429_1, hx429_2⟩ := at_T69 HR0.out x5_1 p429 q429); (have hw429_2 := hx429_2); (have hw429_1 := hx429_1); (have hw429_0 := hx429_0); (cases e429); (replace hx429_0 := (HB.out.cell (World.block_lt_of_cell? w _ hx429_0)).trans hx429_0); (replace hx429_1 := (HB.out.cell (World.block_lt_of_cell? w _ hx429_1)).trans hx429_1); (replace hx429_2 := (HB.out.cell (World.block_lt_of_cell? w _ hx429_2)).trans hx429_2); (replace p429 := eq_true p429); (replace q429 := eq_true q429); (have p430 : 0 ≤ (x5_1 : Int) := of_decide_eq_true (by first | (with_reducible assumption) | assumption)); (have q430 : x5_1 < (l1.length : Int) := of_decide_eq_true (by first | (with_reducible assumption) | assumption)); (obtain ⟨ad430, e430, hx430_0, hx430_1, hx430_2⟩ := at_T69 HR1.out x5_1 p430 q430); (have hw430_2 := hx430_2); (have hw430_1 := hx430_1); (have hw430_0 := hx430_0); (cases e430); (replace hx430_0 := (HB.out.cell (World.block_lt_of_cell? w _ hx430_0)).trans hx430_0); (replace hx430_1 := (HB.out.cell (World.block_lt_of_cell? w _ hx430_1)).trans hx430_1); (replace hx430_2 := (HB.out.cell (World.block_lt_of_cell? w _ hx430_2)).trans hx430_2); (replace p430 := eq_true p430); (replace q430 := eq_true q430)
         refine start_ (n := 9) (S := fun w' => w'.cell? (ad429.add ((x5_1).toNat * 3)) = some (.int .i64 ((rd_T69 l0 x5_1).f0)) ∧ w'.cell? ⟨(ad429.add ((x5_1).toNat * 3)).block, (ad429.add ((x5_1).toNat * 3)).off + 1, none⟩ = some (.int .i64 ((rd_T69 l0 x5_1).f1)) ∧ w'.cell? ⟨(ad429.add ((x5_1).toNat * 3)).block, (ad429.add ((x5_1).toNat * 3)).off + 2, none⟩ = some (.int .i64 ((rd_T69 l0 x5_1).f2)) ∧ w'.cell? (ad430.add ((x5_1).toNat * 3)) = some (.int .i64 ((rd_T69 l1 x5_1).f0)) ∧ w'.cell? ⟨(ad430.add ((x5_1).toNat * 3)).block, (ad430.add ((x5_1).toNat * 3)).off + 1, none⟩ = some (.int .i64 ((rd_T69 l1 x5_1).f1)) ∧ w'.cell? ⟨(ad430.add ((x5_1).toNat * 3)).block, (ad430.add ((x5_1).toNat * 3)).off + 2, none⟩ = some (.int .i64 ((rd_T69 l1 x5_1).f2))) (ds := []) #[ff,ff,ff,ff,ff,ff,ff,ff,ff] (by kernel_rfl) rfl rfl ⟨((HB.out.cell (World.block_lt_of_cell? w _ hw429_0)).trans hw429_0), ((HB.out.cell (World.block_lt_of_cell? w _ hw429_1)).trans hw429_1), ((HB.out.cell (World.block_lt_of_cell? w _ hw429_2)).trans hw429_2), ((HB.out.cell (World.block_lt_of_cell? w _ hw430_0)).trans hw430_0), ((HB.out.cell (World.block_lt_of_cell? w _ hw430_1)).trans hw430_1), ((HB.out.cell (World.block_lt_of_cell? w _ hw430_2)).trans hw430_2)⟩ (fun hHeld => ?_); refine with_tabW spec_l09Compare.tab8 spec_l09Compare.bits8 (fun HT_ HW_ => ?_)
         (generalize wr.drew = w13 at HB hx429_0 hx429_1 hx429_2 hx430_0 hx430_1 hx430_2 hHeld ⊢)
         refine pure_ (i := 0) (N := some 22) (v := ?_) (a' := ?_) #[tt,ff,ff,ff,ff,ff,ff,ff,ff] rfl rfl (any_of HT_.out (by kernel_rfl)) (fun _ _ _ h => h) (Or.inl ⟨by rfl, ?_⟩) ?_ ?_
         rotate_left
         ·intro w'; go_simp; with_reducible rfl
         rotate_left
         ·(simp only [Act.put, sia_, sz_, ss_, i64_w, i32_w]); rfl
         refine pure_ (i := 1) (N := some 23) (v := ?_) (a' := ?_) #[tt,tt,ff,ff,ff,ff,ff,ff,ff] rfl rfl (any_of HT_.out (by kernel_rfl)) (fun _ _ _ h => h) (Or.inl ⟨by rfl, ?_⟩) ?_ ?_
         rotate_left
         ·intro w'; go_simp; with_reducible rfl
         rotate_left
         ·(simp only [Act.put, sia_, sz_, ss_, i64_w, i32_w]); rfl
         refine pure_ (i := 2) (N := some 24) (v := ?_) (a' := ?_) #[tt,tt,tt,ff,ff,ff,ff,ff,ff] rfl rfl (any_of HT_.out (by kernel_rfl)) (fun _ _ _ h => h) (Or.inl ⟨by rfl, ?_⟩) ?_ ?_
         rotate_left
         ·intro w'; go_simp; with_reducible rfl
         rotate_left
         ·(simp only [Act.put, sia_, sz_, ss_, i64_w, i32_w]); rfl
         refine pure_ (i := 4) (N := some 26) (v := ?_) (a' := ?_) #[tt,tt,tt,ff,tt,ff,ff,ff,ff] rfl rfl (any_of HT_.out (by kernel_rfl)) (fun _ _ _ h => h) (Or.inl ⟨by rfl, ?_⟩) ?_ ?_
         rotate_left
         ·intro w'; go_simp; with_reducible rfl
         rotate_left
         ·(simp only [Act.put, sia_, sz_, ss_, i64_w, i32_w]); rfl
         refine pure_ (i := 5) (N := some 27) (v := ?_) (a' := ?_) #[tt,tt,tt,ff,tt,tt,ff,ff,ff] rfl rfl (any_of HT_.out (by kernel_rfl)) (fun _ _ _ h => h) (Or.inl ⟨by rfl, ?_⟩) ?_ ?_
         rotate_left
         ·intro w'; go_simp; with_reducible rfl
         rotate_left
         ·(simp only [Act.put, sia_, sz_, ss_, i64_w, i32_w]); rfl
         refine pure_ (i := 6) (N := some 28) (v := ?_) (a' := ?_) #[tt,tt,tt,ff,tt,tt,tt,ff,ff] rfl rfl (any_of HT_.out (by kernel_rfl)) (fun _ _ _ h => h) (Or.inl ⟨by rfl, ?_⟩) ?_ ?_
         rotate_left
         ·intro w'; go_simp; with_reducible rfl
         rotate_left
         ·(simp only [Act.put, sia_, sz_, ss_, i64_w, i32_w]); rfl
         refine take_ (i := 3) (N := some 25) (v := ?_) (a' := ?_) #[tt,tt,tt,tt,tt,tt,tt,ff,ff] rfl rfl (take_ofW HT_.out HW_.out (by kernel_rfl)) (fun _ _ _ h => h) (Or.inl ⟨by rfl, ?_⟩) hHeld ?_ ?_
         rotate_left
         ·(rintro w' ⟨s0, s1, s2, s3, s4, s5⟩); go_simp; with_reducible rfl
         rotate_left
         ·(simp only [Act.put, sia_, sz_, ss_, i64_w, i32_w]); rfl
         refine take_ (i := 7) (N := some 29) (v := ?_) (a' := ?_) #[tt,tt,tt,tt,tt,tt,tt,tt,ff] rfl rfl (take_ofW HT_.out HW_.out (by kernel_rfl)) (fun _ _ _ h => h) (Or.inl ⟨by rfl, ?_⟩) hHeld ?_ ?_
         rotate_left
         ·(rintro w' ⟨s0, s1, s2, s3, s4, s5⟩); go_simp; with_reducible rfl
         rotate_left
         ·(simp only [Act.put, sia_, sz_, ss_, i64_w, i32_w]); rfl
         refine one_ (i := 8) (N := some 30) #[tt,tt,tt,tt,tt,tt,tt,tt,tt] rfl rfl (one_of HT_.out (by kernel_rfl)) (by decide) (fun K hK => ?_)
         (refine goes_ Try.func100 (by kernel_rfl) rfl #[.agg #[.int .i64 ((rd_T69 l0 x5_1).f0), .int .i64 ((rd_T69 l0 x5_1).f1), .int .i64 ((rd_T69 l0 x5_1).f2)], .agg #[.int .i64 ((rd_T69 l1 x5_1).f0), .int .i64 ((rd_T69 l1 x5_1).f1), .int .i64 ((rd_T69 l1 x5_1).f2)]] (by rfl) rfl rfl (by (try simp only [List.map_toArray, List.map_cons, List.map_nil]); first | done | rfl | (simp only [List.length_drop, List.length_take]; rfl)) ?_); (with_reducible refine (spec_l09Less.calls ((rd_T69 l0 x5_1).f0) ((rd_T69 l0 x5_1).f1) ((rd_T69 l0 x5_1).f2) ((rd_T69 l1 x5_1).f0) ((rd_T69 l1 x5_1).f1) ((rd_T69 l1 x5_1).f2) false _ A7.out).mono ?_); (rintro e w14 ⟨rfl, hb⟩); (refine ⟨_, rfl, ?_⟩); (have n0_ := A0_ (below_step (by repeat (first | (with_reducible first | exact HB.out | apply ba_ | apply bn_ | apply bd_) | exact HB.out)) hb)); clear HB; (have HB := n0_); clear n0_; ((try clear hb)); ((try clear hb2)); ((try clear hk)); ((try clear hi))
         refine hK.out _ _ ⟨((HB.out.cell (World.block_lt_of_cell? w _ hw429_0)).trans hw429_0), ((HB.out.cell (World.block_lt_of_cell? w _ hw429_1)).trans hw429_1), ((HB.out.cell (World.block_lt_of_cell? w _ hw429_2)).trans hw429_2), ((HB.out.cell (World.block_lt_of_cell? w _ hw430_0)).trans hw430_0), ((HB.out.cell (World.block_lt_of_cell? w _ hw430_1)).trans hw430_1), ((HB.out.cell (World.block_lt_of_cell? w _ hw430_2)).trans hw430_2)⟩ (fun hHeld => ?_)
         clear hK K; (refine norm_ (a' := ?_) ?_ ?_); rotate_left
         ·(show Act.put _ (some 30) _ = _); (simp only [Act.put, sia_, sz_, ss_, i64_w, i32_w]); rfl
         (refine done_ (done_of HT_.out (by kernel_rfl)) ?_); (try go_wp2); (have n0_ := A0_ (below_drew1 HB.out)); clear HB; (have HB := n0_); clear n0_; (have p432 : 0 ≤ (x5_1 : Int) := of_decide_eq_true (by first | (with_reducible assumption) | assumption)); (have q432 : x5_1 < (l1.length : Int) := of_decide_eq_true (by first | (with_reducible assumption) | assumption)); (obtain ⟨ad432, e432, hx432_0, hx432_1, hx432_2⟩ := at_T69 HR1.out x5_1 p432 q432); (have hw432_2 := hx432_2); (have hw432_1 := hx432_1); (have hw432_0 := hx432_0); (obtain rfl : ad430 = ad432 := (by injection e432)); (replace hx432_0 := (HB.out.cell (World.block_lt_of_cell? w _ hx432_0)).trans hx432_0); (replace hx432_1 := (HB.out.cell (World.block_lt_of_cell? w _ hx432_1)).trans hx432_1); (replace hx432_2 := (HB.out.cell (World.block_lt_of_cell? w _ hx432_2)).trans hx432_2); (replace p432 := eq_true p432); (replace q432 := eq_true q432); (have p433 : 0 ≤ (x5_1 : Int) := of_decide_eq_true (by first | (with_reducible assumption) | assumption)); (have q433 : x5_1 < (l0.length : Int) := of_decide_eq_true (by first | (with_reducible assumption) | assumption)); (obtain ⟨ad433, e433, hx433_0, hx433_1, hx433_2⟩ := at_T69 HR0.out x5_1 p433 q433); (have hw433_2 := hx433_2); (have hw433_1 := hx433_1); (have hw433_0 := hx433_0); (obtain rfl : ad429 = ad433 := (by injection e433)); (replace hx433_0 := (HB.out.cell (World.block_lt_of_cell? w _ hx433_0)).trans hx433_0); (replace hx433_1 := (HB.out.cell (World.block_lt_of_cell? w _ hx433_1)).trans hx433_1); (replace hx433_2 := (HB.out.cell (World.block_lt_of_cell? w _ hx433_2)).trans hx433_2); (replace p433 := eq_true p433); (replace q433 := eq_true q433)
         refine start_ (n := 9) (S := fun w' => w'.cell? (ad430.add ((x5_1).toNat * 3)) = some (.int .i64 ((rd_T69 l1 x5_1).f0)) ∧ w'.cell? ⟨(ad430.add ((x5_1).toNat * 3)).block, (ad430.add ((x5_1).toNat * 3)).off + 1, none⟩ = some (.int .i64 ((rd_T69 l1 x5_1).f1)) ∧ w'.cell? ⟨(ad430.add ((x5_1).toNat * 3)).block, (ad430.add ((x5_1).toNat * 3)).off + 2, none⟩ = some (.int .i64 ((rd_T69 l1 x5_1).f2)) ∧ w'.cell? (ad429.add ((x5_1).toNat * 3)) = some (.int .i64 ((rd_T69 l0 x5_1).f0)) ∧ w'.cell? ⟨(ad429.add ((x5_1).toNat * 3)).block, (ad429.add ((x5_1).toNat * 3)).off + 1, none⟩ = some (.int .i64 ((rd_T69 l0 x5_1).f1)) ∧ w'.cell? ⟨(ad429.add ((x5_1).toNat * 3)).block, (ad429.add ((x5_1).toNat * 3)).off + 2, none⟩ = some (.int .i64 ((rd_T69 l0 x5_1).f2))) (ds := []) #[ff,ff,ff,ff,ff,ff,ff,ff,ff] (by kernel_rfl) rfl rfl ⟨((HB.out.cell (World.block_lt_of_cell? w _ hw432_0)).trans hw432_0), ((HB.out.cell (World.block_lt_of_cell? w _ hw432_1)).trans hw432_1), ((HB.out.cell (World.block_lt_of_cell? w _ hw432_2)).trans hw432_2), ((HB.out.cell (World.block_lt_of_cell? w _ hw433_0)).trans hw433_0), ((HB.out.cell (World.block_lt_of_cell? w _ hw433_1)).trans hw433_1), ((HB.out.cell (World.block_lt_of_cell? w _ hw433_2)).trans hw433_2)⟩ (fun hHeld => ?_); refine with_tabW spec_l09Compare.tab10 spec_l09Compare.bits10 (fun HT_ HW_ => ?_)
         (generalize w14.drew = w15 at HB hx432_0 hx432_1 hx432_2 hx433_0 hx433_1 hx433_2 hHeld ⊢)
         refine pure_ (i := 0) (N := some 31) (v := ?_) (a' := ?_) #[tt,ff,ff,ff,ff,ff,ff,ff,ff] rfl rfl (any_of HT_.out (by kernel_rfl)) (fun _ _ _ h => h) (Or.inl ⟨by rfl, ?_⟩) ?_ ?_
         rotate_left
         ·intro w'; go_simp; with_reducible rfl
         rotate_left
         ·(simp only [Act.put, sia_, sz_, ss_, i64_w, i32_w]); rfl
         refine pure_ (i := 1) (N := some 32) (v := ?_) (a' := ?_) #[tt,tt,ff,ff,ff,ff,ff,ff,ff] rfl rfl (any_of HT_.out (by kernel_rfl)) (fun _ _ _ h => h) (Or.inl ⟨by rfl, ?_⟩) ?_ ?_
         rotate_left
         ·intro w'; go_simp; with_reducible rfl
         rotate_left
         ·(simp only [Act.put, sia_, sz_, ss_, i64_w, i32_w]); rfl
         refine pure_ (i := 2) (N := some 33) (v := ?_) (a' := ?_) #[tt,tt,tt,ff,ff,ff,ff,ff,ff] rfl rfl (any_of HT_.out (by kernel_rfl)) (fun _ _ _ h => h) (Or.inl ⟨by rfl, ?_⟩) ?_ ?_
         rotate_left
         ·intro w'; go_simp; with_reducible rfl
         rotate_left
         ·(simp only [Act.put, sia_, sz_, ss_, i64_w, i32_w]); rfl
         refine pure_ (i := 4) (N := some 35) (v := ?_) (a' := ?_) #[tt,tt,tt,ff,tt,ff,ff,ff,ff] rfl rfl (any_of HT_.out (by kernel_rfl)) (fun _ _ _ h => h) (Or.inl ⟨by rfl, ?_⟩) ?_ ?_
         rotate_left
         ·intro w'; go_simp; with_reducible rfl
         rotate_left
         ·(simp only [Act.put, sia_, sz_, ss_, i64_w, i32_w]); rfl
         refine pure_ (i := 5) (N := some 36) (v := ?_) (a' := ?_) #[tt,tt,tt,ff,tt,tt,ff,ff,ff] rfl rfl (any_of HT_.out (by kernel_rfl)) (fun _ _ _ h => h) (Or.inl ⟨by rfl, ?_⟩) ?_ ?_
         rotate_left
         ·intro w'; go_simp; with_reducible rfl
         rotate_left
         ·(simp only [Act.put, sia_, sz_, ss_, i64_w, i32_w]); rfl
         refine pure_ (i := 6) (N := some 37) (v := ?_) (a' := ?_) #[tt,tt,tt,ff,tt,tt,tt,ff,ff] rfl rfl (any_of HT_.out (by kernel_rfl)) (fun _ _ _ h => h) (Or.inl ⟨by rfl, ?_⟩) ?_ ?_
         rotate_left
         ·intro w'; go_simp; with_reducible rfl
         rotate_left
         ·(simp only [Act.put, sia_, sz_, ss_, i64_w, i32_w]); rfl
         refine take_ (i := 3) (N := some 34) (v := ?_) (a' := ?_) #[tt,tt,tt,tt,tt,tt,tt,ff,ff] rfl rfl (take_ofW HT_.out HW_.out (by kernel_rfl)) (fun _ _ _ h => h) (Or.inl ⟨by rfl, ?_⟩) hHeld ?_ ?_
         rotate_left
         ·(rintro w' ⟨s0, s1, s2, s3, s4, s5⟩); go_simp; with_reducible rfl
         rotate_left
         ·(simp only [Act.put, sia_, sz_, ss_, i64_w, i32_w]); rfl
         refine take_ (i := 7) (N := some 38) (v := ?_) (a' := ?_) #[tt,tt,tt,tt,tt,tt,tt,tt,ff] rfl rfl (take_ofW HT_.out HW_.out (by kernel_rfl)) (fun _ _ _ h => h) (Or.inl ⟨by rfl, ?_⟩) hHeld ?_ ?_
         rotate_left
         ·(rintro w' ⟨s0, s1, s2, s3, s4, s5⟩); go_simp; with_reducible rfl
         rotate_left
         ·(simp only [Act.put, sia_, sz_, ss_, i64_w, i32_w]); rfl
         refine one_ (i := 8) (N := some 39) #[tt,tt,tt,tt,tt,tt,tt,tt,tt] rfl rfl (one_of HT_.out (by kernel_rfl)) (by decide) (fun K hK => ?_)
         (refine goes_ Try.func100 (by kernel_rfl) rfl #[.agg #[.int .i64 ((rd_T69 l1 x5_1).f0), .int .i64 ((rd_T69 l1 x5_1).f1), .int .i64 ((rd_T69 l1 x5_1).f2)], .agg #[.int .i64 ((rd_T69 l0 x5_1).f0), .int .i64 ((rd_T69 l0 x5_1).f1), .int .i64 ((rd_T69 l0 x5_1).f2)]] (by rfl) rfl rfl (by (try simp only [List.map_toArray, List.map_cons, List.map_nil]); first | done | rfl | (simp only [List.length_drop, List.length_take]; rfl)) ?_); (with_reducible refine (spec_l09Less.calls ((rd_T69 l1 x5_1).f0) ((rd_T69 l1 x5_1).f1) ((rd_T69 l1 x5_1).f2) ((rd_T69 l0 x5_1).f0) ((rd_T69 l0 x5_1).f1) ((rd_T69 l0 x5_1).f2) true _ A11.out).mono ?_); (rintro e w16 ⟨rfl, hb⟩); (refine ⟨_, rfl, ?_⟩); (have n0_ := A0_ (below_step (by repeat (first | (with_reducible first | exact HB.out | apply ba_ | apply bn_ | apply bd_) | exact HB.out)) hb)); clear HB; (have HB := n0_); clear n0_; ((try clear hb)); ((try clear hb2)); ((try clear hk)); ((try clear hi))
         refine hK.out _ _ ⟨((HB.out.cell (World.block_lt_of_cell? w _ hw432_0)).trans hw432_0), ((HB.out.cell (World.block_lt_of_cell? w _ hw432_1)).trans hw432_1), ((HB.out.cell (World.block_lt_of_cell? w _ hw432_2)).trans hw432_2), ((HB.out.cell (World.block_lt_of_cell? w _ hw433_0)).trans hw433_0), ((HB.out.cell (World.block_lt_of_cell? w _ hw433_1)).trans hw433_1), ((HB.out.cell (World.block_lt_of_cell? w _ hw433_2)).trans hw433_2)⟩ (fun hHeld => ?_)
         clear hK K; (refine norm_ (a' := ?_) ?_ ?_); rotate_left
         ·(show Act.put _ (some 39) _ = _); (simp only [Act.put, sia_, sz_, ss_, i64_w, i32_w]); rfl
         (refine done_ (done_of HT_.out (by kernel_rfl)) ?_); (try go_wp2); go_ret; (exact ⟨by first | rfl | (simp [errW_none, errW_some] <;> rfl) | (simp [*, errW_none, errW_some] <;> rfl), by repeat (first | (with_reducible first | exact HB.out | apply ba_ | apply bn_ | apply bd_) | exact HB.out)⟩)
        ·(replace c12 := Bool.eq_false_iff.mpr c12); subst c12; (have H1 : (spec_l09Compare.l0 k1 l0 l1 (wrap64 (x5_1 + 1))) = some r := by rw [if_neg (show ¬ (false = true) by decide)] at H; exact H); clear H; (have H := H1); clear H1; (have H' := A0_ H); clear H; (try go_wp2); (have n0_ := A0_ (below_drew1 HB.out)); clear HB; (have HB := n0_); clear n0_; (have p429 : 0 ≤ (x5_1 : Int) := of_decide_eq_true (by first | (with_reducible assumption) | assumption)); (have q429 : x5_1 < (l0.length : Int) := of_decide_eq_true (by first | (with_reducible assumption) | assumption)); (obtain ⟨ad429, e429, hx429_0, hx429_1, hx429_2⟩ := at_T69 HR0.out x5_1 p429 q429); (have hw429_2 := hx429_2); (have hw429_1 := hx429_1); (have hw429_0 := hx429_0); (cases e429); (replace hx429_0 := (HB.out.cell (World.block_lt_of_cell? w _ hx429_0)).trans hx429_0); (replace hx429_1 := (HB.out.cell (World.block_lt_of_cell? w _ hx429_1)).trans hx429_1); (replace hx429_2 := (HB.out.cell (World.block_lt_of_cell? w _ hx429_2)).trans hx429_2); (replace p429 := eq_true p429); (replace q429 := eq_true q429); (have p430 : 0 ≤ (x5_1 : Int) := of_decide_eq_true (by first | (with_reducible assumption) | assumption)); (have q430 : x5_1 < (l1.length : Int) := of_decide_eq_true (by first | (with_reducible assumption) | assumption)); (obtain ⟨ad430, e430, hx430_0, hx430_1, hx430_2⟩ := at_T69 HR1.out x5_1 p430 q430); (have hw430_2 := hx430_2); (have hw430_1 := hx430_1); (have hw430_0 := hx430_0); (cases e430); (replace hx430_0 := (HB.out.cell (World.block_lt_of_cell? w _ hx430_0)).trans hx430_0); (replace hx430_1 := (HB.out.cell (World.block_lt_of_cell? w _ hx430_1)).trans hx430_1); (replace hx430_2 := (HB.out.cell (World.block_lt_of_cell? w _ hx430_2)).trans hx430_2); (replace p430 := eq_true p430); (replace q430 := eq_true q430)
         refine start_ (n := 9) (S := fun w' => w'.cell? (ad429.add ((x5_1).toNat * 3)) = some (.int .i64 ((rd_T69 l0 x5_1).f0)) ∧ w'.cell? ⟨(ad429.add ((x5_1).toNat * 3)).block, (ad429.add ((x5_1).toNat * 3)).off + 1, none⟩ = some (.int .i64 ((rd_T69 l0 x5_1).f1)) ∧ w'.cell? ⟨(ad429.add ((x5_1).toNat * 3)).block, (ad429.add ((x5_1).toNat * 3)).off + 2, none⟩ = some (.int .i64 ((rd_T69 l0 x5_1).f2)) ∧ w'.cell? (ad430.add ((x5_1).toNat * 3)) = some (.int .i64 ((rd_T69 l1 x5_1).f0)) ∧ w'.cell? ⟨(ad430.add ((x5_1).toNat * 3)).block, (ad430.add ((x5_1).toNat * 3)).off + 1, none⟩ = some (.int .i64 ((rd_T69 l1 x5_1).f1)) ∧ w'.cell? ⟨(ad430.add ((x5_1).toNat * 3)).block, (ad430.add ((x5_1).toNat * 3)).off + 2, none⟩ = some (.int .i64 ((rd_T69 l1 x5_1).f2))) (ds := []) #[ff,ff,ff,ff,ff,ff,ff,ff,ff] (by kernel_rfl) rfl rfl ⟨((HB.out.cell (World.block_lt_of_cell? w _ hw429_0)).trans hw429_0), ((HB.out.cell (World.block_lt_of_cell? w _ hw429_1)).trans hw429_1), ((HB.out.cell (World.block_lt_of_cell? w _ hw429_2)).trans hw429_2), ((HB.out.cell (World.block_lt_of_cell? w _ hw430_0)).trans hw430_0), ((HB.out.cell (World.block_lt_of_cell? w _ hw430_1)).trans hw430_1), ((HB.out.cell (World.block_lt_of_cell? w _ hw430_2)).trans hw430_2)⟩ (fun hHeld => ?_); refine with_tabW spec_l09Compare.tab8 spec_l09Compare.bits8 (fun HT_ HW_ => ?_)
         (generalize wr.drew = w17 at HB hx429_0 hx429_1 hx429_2 hx430_0 hx430_1 hx430_2 hHeld ⊢)
         refine pure_ (i := 0) (N := some 22) (v := ?_) (a' := ?_) #[tt,ff,ff,ff,ff,ff,ff,ff,ff] rfl rfl (any_of HT_.out (by kernel_rfl)) (fun _ _ _ h => h) (Or.inl ⟨by rfl, ?_⟩) ?_ ?_
         rotate_left
         ·intro w'; go_simp; with_reducible rfl
         rotate_left
         ·(simp only [Act.put, sia_, sz_, ss_, i64_w, i32_w]); rfl
         refine pure_ (i := 1) (N := some 23) (v := ?_) (a' := ?_) #[tt,tt,ff,ff,ff,ff,ff,ff,ff] rfl rfl (any_of HT_.out (by kernel_rfl)) (fun _ _ _ h => h) (Or.inl ⟨by rfl, ?_⟩) ?_ ?_
         rotate_left
         ·intro w'; go_simp; with_reducible rfl
         rotate_left
         ·(simp only [Act.put, sia_, sz_, ss_, i64_w, i32_w]); rfl
         refine pure_ (i := 2) (N := some 24) (v := ?_) (a' := ?_) #[tt,tt,tt,ff,ff,ff,ff,ff,ff] rfl rfl (any_of HT_.out (by kernel_rfl)) (fun _ _ _ h => h) (Or.inl ⟨by rfl, ?_⟩) ?_ ?_
         rotate_left
         ·intro w'; go_simp; with_reducible rfl
         rotate_left
         ·(simp only [Act.put, sia_, sz_, ss_, i64_w, i32_w]); rfl
         refine pure_ (i := 4) (N := some 26) (v := ?_) (a' := ?_) #[tt,tt,tt,ff,tt,ff,ff,ff,ff] rfl rfl (any_of HT_.out (by kernel_rfl)) (fun _ _ _ h => h) (Or.inl ⟨by rfl, ?_⟩) ?_ ?_
         rotate_left
         ·intro w'; go_simp; with_reducible rfl
         rotate_left
         ·(simp only [Act.put, sia_, sz_, ss_, i64_w, i32_w]); rfl
         refine pure_ (i := 5) (N := some 27) (v := ?_) (a' := ?_) #[tt,tt,tt,ff,tt,tt,ff,ff,ff] rfl rfl (any_of HT_.out (by kernel_rfl)) (fun _ _ _ h => h) (Or.inl ⟨by rfl, ?_⟩) ?_ ?_
         rotate_left
         ·intro w'; go_simp; with_reducible rfl
         rotate_left
         ·(simp only [Act.put, sia_, sz_, ss_, i64_w, i32_w]); rfl
         refine pure_ (i := 6) (N := some 28) (v := ?_) (a' := ?_) #[tt,tt,tt,ff,tt,tt,tt,ff,ff] rfl rfl (any_of HT_.out (by kernel_rfl)) (fun _ _ _ h => h) (Or.inl ⟨by rfl, ?_⟩) ?_ ?_
         rotate_left
         ·intro w'; go_simp; with_reducible rfl
         rotate_left
         ·(simp only [Act.put, sia_, sz_, ss_, i64_w, i32_w]); rfl
         refine take_ (i := 3) (N := some 25) (v := ?_) (a' := ?_) #[tt,tt,tt,tt,tt,tt,tt,ff,ff] rfl rfl (take_ofW HT_.out HW_.out (by kernel_rfl)) (fun _ _ _ h => h) (Or.inl ⟨by rfl, ?_⟩) hHeld ?_ ?_
         rotate_left
         ·(rintro w' ⟨s0, s1, s2, s3, s4, s5⟩); go_simp; with_reducible rfl
         rotate_left
         ·(simp only [Act.put, sia_, sz_, ss_, i64_w, i32_w]); rfl
         refine take_ (i := 7) (N := some 29) (v := ?_) (a' := ?_) #[tt,tt,tt,tt,tt,tt,tt,tt,ff] rfl rfl (take_ofW HT_.out HW_.out (by kernel_rfl)) (fun _ _ _ h => h) (Or.inl ⟨by rfl, ?_⟩) hHeld ?_ ?_
         rotate_left
         ·(rintro w' ⟨s0, s1, s2, s3, s4, s5⟩); go_simp; with_reducible rfl
         rotate_left
         ·(simp only [Act.put, sia_, sz_, ss_, i64_w, i32_w]); rfl
         refine one_ (i := 8) (N := some 30) #[tt,tt,tt,tt,tt,tt,tt,tt,tt] rfl rfl (one_of HT_.out (by kernel_rfl)) (by decide) (fun K hK => ?_)
         (refine goes_ Try.func100 (by kernel_rfl) rfl #[.agg #[.int .i64 ((rd_T69 l0 x5_1).f0), .int .i64 ((rd_T69 l0 x5_1).f1), .int .i64 ((rd_T69 l0 x5_1).f2)], .agg #[.int .i64 ((rd_T69 l1 x5_1).f0), .int .i64 ((rd_T69 l1 x5_1).f1), .int .i64 ((rd_T69 l1 x5_1).f2)]] (by rfl) rfl rfl (by (try simp only [List.map_toArray, List.map_cons, List.map_nil]); first | done | rfl | (simp only [List.length_drop, List.length_take]; rfl)) ?_); (with_reducible refine (spec_l09Less.calls ((rd_T69 l0 x5_1).f0) ((rd_T69 l0 x5_1).f1) ((rd_T69 l0 x5_1).f2) ((rd_T69 l1 x5_1).f0) ((rd_T69 l1 x5_1).f1) ((rd_T69 l1 x5_1).f2) false _ A7.out).mono ?_); (rintro e w18 ⟨rfl, hb⟩); (refine ⟨_, rfl, ?_⟩); (have n0_ := A0_ (below_step (by repeat (first | (with_reducible first | exact HB.out | apply ba_ | apply bn_ | apply bd_) | exact HB.out)) hb)); clear HB; (have HB := n0_); clear n0_; ((try clear hb)); ((try clear hb2)); ((try clear hk)); ((try clear hi))
         refine hK.out _ _ ⟨((HB.out.cell (World.block_lt_of_cell? w _ hw429_0)).trans hw429_0), ((HB.out.cell (World.block_lt_of_cell? w _ hw429_1)).trans hw429_1), ((HB.out.cell (World.block_lt_of_cell? w _ hw429_2)).trans hw429_2), ((HB.out.cell (World.block_lt_of_cell? w _ hw430_0)).trans hw430_0), ((HB.out.cell (World.block_lt_of_cell? w _ hw430_1)).trans hw430_1), ((HB.out.cell (World.block_lt_of_cell? w _ hw430_2)).trans hw430_2)⟩ (fun hHeld => ?_)
         clear hK K; (refine norm_ (a' := ?_) ?_ ?_); rotate_left
         ·(show Act.put _ (some 30) _ = _); (simp only [Act.put, sia_, sz_, ss_, i64_w, i32_w]); rfl
         (refine done_ (done_of HT_.out (by kernel_rfl)) ?_); (try go_wp2); (have n0_ := A0_ (below_drew1 HB.out)); clear HB; (have HB := n0_); clear n0_; (have p432 : 0 ≤ (x5_1 : Int) := of_decide_eq_true (by first | (with_reducible assumption) | assumption)); (have q432 : x5_1 < (l1.length : Int) := of_decide_eq_true (by first | (with_reducible assumption) | assumption)); (obtain ⟨ad432, e432, hx432_0, hx432_1, hx432_2⟩ := at_T69 HR1.out x5_1 p432 q432); (have hw432_2 := hx432_2); (have hw432_1 := hx432_1); (have hw432_0 := hx432_0); (obtain rfl : ad430 = ad432 := (by injection e432)); (replace hx432_0 := (HB.out.cell (World.block_lt_of_cell? w _ hx432_0)).trans hx432_0); (replace hx432_1 := (HB.out.cell (World.block_lt_of_cell? w _ hx432_1)).trans hx432_1); (replace hx432_2 := (HB.out.cell (World.block_lt_of_cell? w _ hx432_2)).trans hx432_2); (replace p432 := eq_true p432); (replace q432 := eq_true q432); (have p433 : 0 ≤ (x5_1 : Int) := of_decide_eq_true (by first | (with_reducible assumption) | assumption)); (have q433 : x5_1 < (l0.length : Int) := of_decide_eq_true (by first | (with_reducible assumption) | assumption)); (obtain ⟨ad433, e433, hx433_0, hx433_1, hx433_2⟩ := at_T69 HR0.out x5_1 p433 q433); (have hw433_2 := hx433_2); (have hw433_1 := hx433_1); (have hw433_0 := hx433_0); (obtain rfl : ad429 = ad433 := (by injection e433)); (replace hx433_0 := (HB.out.cell (World.block_lt_of_cell? w _ hx433_0)).trans hx433_0); (replace hx433_1 := (HB.out.cell (World.block_lt_of_cell? w _ hx433_1)).trans hx433_1); (replace hx433_2 := (HB.out.cell (World.block_lt_of_cell? w _ hx433_2)).trans hx433_2); (replace p433 := eq_true p433); (replace q433 := eq_true q433)
         refine start_ (n := 9) (S := fun w' => w'.cell? (ad430.add ((x5_1).toNat * 3)) = some (.int .i64 ((rd_T69 l1 x5_1).f0)) ∧ w'.cell? ⟨(ad430.add ((x5_1).toNat * 3)).block, (ad430.add ((x5_1).toNat * 3)).off + 1, none⟩ = some (.int .i64 ((rd_T69 l1 x5_1).f1)) ∧ w'.cell? ⟨(ad430.add ((x5_1).toNat * 3)).block, (ad430.add ((x5_1).toNat * 3)).off + 2, none⟩ = some (.int .i64 ((rd_T69 l1 x5_1).f2)) ∧ w'.cell? (ad429.add ((x5_1).toNat * 3)) = some (.int .i64 ((rd_T69 l0 x5_1).f0)) ∧ w'.cell? ⟨(ad429.add ((x5_1).toNat * 3)).block, (ad429.add ((x5_1).toNat * 3)).off + 1, none⟩ = some (.int .i64 ((rd_T69 l0 x5_1).f1)) ∧ w'.cell? ⟨(ad429.add ((x5_1).toNat * 3)).block, (ad429.add ((x5_1).toNat * 3)).off + 2, none⟩ = some (.int .i64 ((rd_T69 l0 x5_1).f2))) (ds := []) #[ff,ff,ff,ff,ff,ff,ff,ff,ff] (by kernel_rfl) rfl rfl ⟨((HB.out.cell (World.block_lt_of_cell? w _ hw432_0)).trans hw432_0), ((HB.out.cell (World.block_lt_of_cell? w _ hw432_1)).trans hw432_1), ((HB.out.cell (World.block_lt_of_cell? w _ hw432_2)).trans hw432_2), ((HB.out.cell (World.block_lt_of_cell? w _ hw433_0)).trans hw433_0), ((HB.out.cell (World.block_lt_of_cell? w _ hw433_1)).trans hw433_1), ((HB.out.cell (World.block_lt_of_cell? w _ hw433_2)).trans hw433_2)⟩ (fun hHeld => ?_); refine with_tabW spec_l09Compare.tab10 spec_l09Compare.bits10 (fun HT_ HW_ => ?_)
         (generalize w18.drew = w19 at HB hx432_0 hx432_1 hx432_2 hx433_0 hx433_1 hx433_2 hHeld ⊢)
         refine pure_ (i := 0) (N := some 31) (v := ?_) (a' := ?_) #[tt,ff,ff,ff,ff,ff,ff,ff,ff] rfl rfl (any_of HT_.out (by kernel_rfl)) (fun _ _ _ h => h) (Or.inl ⟨by rfl, ?_⟩) ?_ ?_
         rotate_left
         ·intro w'; go_simp; with_reducible rfl
         rotate_left
         ·(simp only [Act.put, sia_, sz_, ss_, i64_w, i32_w]); rfl
         refine pure_ (i := 1) (N := some 32) (v := ?_) (a' := ?_) #[tt,tt,ff,ff,ff,ff,ff,ff,ff] rfl rfl (any_of HT_.out (by kernel_rfl)) (fun _ _ _ h => h) (Or.inl ⟨by rfl, ?_⟩) ?_ ?_
         rotate_left
         ·intro w'; go_simp; with_reducible rfl
         rotate_left
         ·(simp only [Act.put, sia_, sz_, ss_, i64_w, i32_w]); rfl
         refine pure_ (i := 2) (N := some 33) (v := ?_) (a' := ?_) #[tt,tt,tt,ff,ff,ff,ff,ff,ff] rfl rfl (any_of HT_.out (by kernel_rfl)) (fun _ _ _ h => h) (Or.inl ⟨by rfl, ?_⟩) ?_ ?_
         rotate_left
         ·intro w'; go_simp; with_reducible rfl
         rotate_left
         ·(simp only [Act.put, sia_, sz_, ss_, i64_w, i32_w]); rfl
         refine pure_ (i := 4) (N := some 35) (v := ?_) (a' := ?_) #[tt,tt,tt,ff,tt,ff,ff,ff,ff] rfl rfl (any_of HT_.out (by kernel_rfl)) (fun _ _ _ h => h) (Or.inl ⟨by rfl, ?_⟩) ?_ ?_
         rotate_left
         ·intro w'; go_simp; with_reducible rfl
         rotate_left
         ·(simp only [Act.put, sia_, sz_, ss_, i64_w, i32_w]); rfl
         refine pure_ (i := 5) (N := some 36) (v := ?_) (a' := ?_) #[tt,tt,tt,ff,tt,tt,ff,ff,ff] rfl rfl (any_of HT_.out (by kernel_rfl)) (fun _ _ _ h => h) (Or.inl ⟨by rfl, ?_⟩) ?_ ?_
         rotate_left
         ·intro w'; go_simp; with_reducible rfl
         rotate_left
         ·(simp only [Act.put, sia_, sz_, ss_, i64_w, i32_w]); rfl
         refine pure_ (i := 6) (N := some 37) (v := ?_) (a' := ?_) #[tt,tt,tt,ff,tt,tt,tt,ff,ff] rfl rfl (any_of HT_.out (by kernel_rfl)) (fun _ _ _ h => h) (Or.inl ⟨by rfl, ?_⟩) ?_ ?_
         rotate_left
         ·intro w'; go_simp; with_reducible rfl
         rotate_left
         ·(simp only [Act.put, sia_, sz_, ss_, i64_w, i32_w]); rfl
         refine take_ (i := 3) (N := some 34) (v := ?_) (a' := ?_) #[tt,tt,tt,tt,tt,tt,tt,ff,ff] rfl rfl (take_ofW HT_.out HW_.out (by kernel_rfl)) (fun _ _ _ h => h) (Or.inl ⟨by rfl, ?_⟩) hHeld ?_ ?_
         rotate_left
         ·(rintro w' ⟨s0, s1, s2, s3, s4, s5⟩); go_simp; with_reducible rfl
         rotate_left
         ·(simp only [Act.put, sia_, sz_, ss_, i64_w, i32_w]); rfl
         refine take_ (i := 7) (N := some 38) (v := ?_) (a' := ?_) #[tt,tt,tt,tt,tt,tt,tt,tt,ff] rfl rfl (take_ofW HT_.out HW_.out (by kernel_rfl)) (fun _ _ _ h => h) (Or.inl ⟨by rfl, ?_⟩) hHeld ?_ ?_
         rotate_left
         ·(rintro w' ⟨s0, s1, s2, s3, s4, s5⟩); go_simp; with_reducible rfl
         rotate_left
         ·(simp only [Act.put, sia_, sz_, ss_, i64_w, i32_w]); rfl
         refine one_ (i := 8) (N := some 39) #[tt,tt,tt,tt,tt,tt,tt,tt,tt] rfl rfl (one_of HT_.out (by kernel_rfl)) (by decide) (fun K hK => ?_)
         (refine goes_ Try.func100 (by kernel_rfl) rfl #[.agg #[.int .i64 ((rd_T69 l1 x5_1).f0), .int .i64 ((rd_T69 l1 x5_1).f1), .int .i64 ((rd_T69 l1 x5_1).f2)], .agg #[.int .i64 ((rd_T69 l0 x5_1).f0), .int .i64 ((rd_T69 l0 x5_1).f1), .int .i64 ((rd_T69 l0 x5_1).f2)]] (by rfl) rfl rfl (by (try simp only [List.map_toArray, List.map_cons, List.map_nil]); first | done | rfl | (simp only [List.length_drop, List.length_take]; rfl)) ?_); (with_reducible refine (spec_l09Less.calls ((rd_T69 l1 x5_1).f0) ((rd_T69 l1 x5_1).f1) ((rd_T69 l1 x5_1).f2) ((rd_T69 l0 x5_1).f0) ((rd_T69 l0 x5_1).f1) ((rd_T69 l0 x5_1).f2) false _ A11.out).mono ?_); (rintro e w20 ⟨rfl, hb⟩); (refine ⟨_, rfl, ?_⟩); (have n0_ := A0_ (below_step (by repeat (first | (with_reducible first | exact HB.out | apply ba_ | apply bn_ | apply bd_) | exact HB.out)) hb)); clear HB; (have HB := n0_); clear n0_; ((try clear hb)); ((try clear hb2)); ((try clear hk)); ((try clear hi))
         refine hK.out _ _ ⟨((HB.out.cell (World.block_lt_of_cell? w _ hw432_0)).trans hw432_0), ((HB.out.cell (World.block_lt_of_cell? w _ hw432_1)).trans hw432_1), ((HB.out.cell (World.block_lt_of_cell? w _ hw432_2)).trans hw432_2), ((HB.out.cell (World.block_lt_of_cell? w _ hw433_0)).trans hw433_0), ((HB.out.cell (World.block_lt_of_cell? w _ hw433_1)).trans hw433_1), ((HB.out.cell (World.block_lt_of_cell? w _ hw433_2)).trans hw433_2)⟩ (fun hHeld => ?_)
         clear hK K; (refine norm_ (a' := ?_) ?_ ?_); rotate_left
         ·(show Act.put _ (some 39) _ = _); (simp only [Act.put, sia_, sz_, ss_, i64_w, i32_w]); rfl
         (refine done_ (done_of HT_.out (by kernel_rfl)) ?_); (try go_wp2); (go_roundg k1)
         case measure => have := HK1.out; omega
         case rel => exact ⟨(wrap64 (x5_1 + 1)), (by first | rfl | (simp; done) | (simp [*]; done)), H', ⟨by have := HK1.out; omega⟩, ⟨by repeat (first | (with_reducible first | exact HB.out | apply ba_ | apply bn_ | apply bd_) | exact HB.out)⟩⟩
      ·(rw [if_neg c6] at H); (exact absurd H (by simp))
     ·(rw [if_neg c5] at H); (exact absurd H (by simp))
    ·(rw [if_neg c4] at H); (have c4b0 : decide (x5_1 < (l0.length : Int)) = false := decide_eq_false c4); clear c4; (obtain rfl := Option.some.inj H); go_wp2; go_ret; (exact ⟨by first | rfl | (simp [errW_none, errW_some] <;> rfl) | (simp [*, errW_none, errW_some] <;> rfl), by repeat (first | (with_reducible first | exact HB.out | apply ba_ | apply bn_ | apply bd_) | exact HB.out)⟩)
 ·(rw [if_neg c3] at H); (have c3b0 : ((l0.length : Int) == (l1.length : Int)) = false := beq_eq_false_iff_ne.mpr c3); (have c3b1 : ((l0.length : Int) != (l1.length : Int)) = true := bne_iff_ne.mpr c3); (have c3b2 : (l0.length == l1.length) = false := by first | simpa using c3 | (simp at c3 ⊢; omega)); (by_cases c21 : (l0.length : Int) < (l1.length : Int))
  ·(rw [if_pos c21] at H); (have c21b0 : decide ((l0.length : Int) < (l1.length : Int)) = true := decide_eq_true c21); (have c21b1 : decide (l0.length < l1.length) = true := decide_eq_true (Int.ofNat_lt.mp c21)); clear c21; (obtain rfl := Option.some.inj H); (go_enter Try.func124, Try.ntmps124); go_wp2; go_ret; (exact ⟨by first | rfl | (simp [errW_none, errW_some] <;> rfl) | (simp [*, errW_none, errW_some] <;> rfl), by repeat (first | (with_reducible first | exact HB.out | apply ba_ | apply bn_ | apply bd_) | exact HB.out)⟩)
  ·(rw [if_neg c21] at H); (have c21b0 : decide ((l0.length : Int) < (l1.length : Int)) = false := decide_eq_false c21)
   have c21b1 : decide (l0.length < l1.length) = false := decide_eq_false (fun h => c21 (Int.ofNat_lt.mpr h))
   clear c21; (obtain rfl := Option.some.inj H); (go_enter Try.func124, Try.ntmps124); go_wp2; go_ret; (exact ⟨by first | rfl | (simp [errW_none, errW_some] <;> rfl) | (simp [*, errW_none, errW_some] <;> rfl), by repeat (first | (with_reducible first | exact HB.out | apply ba_ | apply bn_ | apply bd_) | exact HB.out)⟩)
end Go.Proofs.Ytlbckkagjekhnaa.A

namespace Go.Proofs.Ytlbckkagjekhnaa.A
open Go.RowKit Go.Proofs.YtlbckkagjekhnaaW.PrintWords Go.Proofs.YtlbckkagjekhnaaW.PrintLast Go.Proofs.YtlbckkagjekhnaaW.PrintMore
attribute [local go_sem] max2_int min2_int max_two min_two max_three min_three max_four min_four   -- for this text's walks alone
set_option linter.unusedVariables false
set_option linter.unusedSimpArgs false
def spec_l28Same.f (k : Nat) (l0 : List (S69)) (l1 : List (S69)) : Option (Bool) := (spec_l09Compare.f k l0 l1).bind fun t435 => (some (t435 == 0))
set_option maxHeartbeats 8000000 in
set_option maxRecDepth 100000 in
theorem spec_l28Same.calls (k : Nat) (A0 : Option Addr) (c0 : Nat) (l0 : List (S69)) (A1 : Option Addr) (c1 : Nat) (l1 : List (S69)) (r : Bool) (w : World) (hr0 : Kd.C k69 w A0 l0.length l0) (hc0 : l0.length ≤ c0) (hr1 : Kd.C k69 w A1 l1.length l1) (hc1 : l1.length ≤ c1) (h : spec_l28Same.f k l0 l1 = some r) :
    Calls Try.prog 119 #[.slice A0 l0.length c0, .slice A1 l1.length c1] w fun e w' => e = .returned (.bool r) ∧ Below w.heap.size w w' := by
 (have HR0 := A0_ hr0); (have HC0 := A0_ hc0); clear hr0 hc0; (have HR1 := A0_ hr1); (have HC1 := A0_ hc1); clear hr1 hc1; (have HB := A0_ (Below.refl w.heap.size w))
 have H : ((spec_l09Compare.f k l0 l1).bind fun t435 => (some (t435 == 0))) = some r := h
 clear h; (replace H := Option.bind_eq_some_iff.mp H); (obtain ⟨t435, A30, H⟩ := H); (try dsimp only at H); (have A3 := A0_ A30); clear A30; (have H0_ := A0_ H); clear H; (go_enter Try.func119, Try.ntmps119); (go_wp2_with (first | ((with_reducible refine gate_callee (f := 124) rfl ?_); refine goesL_ (some 7) rfl rfl Try.func124 (by kernel_rfl) rfl #[.slice A0 l0.length c0, .slice A1 l1.length c1] rfl (by (try simp only [List.map_toArray, List.map_cons, List.map_nil]); first | done | rfl | (simp only [List.length_drop, List.length_take]; rfl)) ?_; (with_reducible refine (spec_l09Compare.calls k _ _ l0 _ _ l1 t435 _ ?side1 ?side2 ?side3 ?side4 A3.out).mono ?_); (case side1 => repeat (first | exact HR0.out | (with_reducible refine Kd.C_alloc ?_ _) | (with_reducible refine Kd.C_drewN ?_ _) | (with_reducible refine Kd.C_drew ?_))); (case side2 => exact HC0.out); (case side3 => repeat (first | exact HR1.out | (with_reducible refine Kd.C_alloc ?_ _) | (with_reducible refine Kd.C_drewN ?_ _) | (with_reducible refine Kd.C_drew ?_))); (case side4 => exact HC1.out); rintro e w4 ⟨rfl, hb⟩; refine ⟨_, rfl, ?_⟩; have n0_ := A0_ (below_step (by repeat (first | (with_reducible first | exact HB.out | apply ba_ | apply bn_ | apply bd_) | exact HB.out)) hb); clear HB; have HB := n0_; clear n0_; (try clear hb); (try clear hb2); (try clear hk); (try clear hi); refine Stop0.out ?_))); (refine Stop0.mk ?_); (have H := H0_.out); clear H0_; (obtain rfl := Option.some.inj H); go_wp2; go_ret; (exact ⟨by first | rfl | (simp [errW_none, errW_some] <;> rfl) | (simp [*, errW_none, errW_some] <;> rfl), by repeat (first | (with_reducible first | exact HB.out | apply ba_ | apply bn_ | apply bd_) | exact HB.out)⟩)
end Go.Proofs.Ytlbckkagjekhnaa.A

/- The statement's search: its state as resources; l28Known, walked. -/
namespace Go.Proofs.Ytlbckkagjekhnaa.A
open Go.RowKit Go.Proofs.YtlbckkagjekhnaaW.PrintWords Go.Proofs.YtlbckkagjekhnaaW.PrintLast Go.Proofs.YtlbckkagjekhnaaW.PrintMore
set_option linter.unusedVariables false
set_option linter.unusedSimpArgs false
abbrev Sl := Option Addr × Nat × Nat
theorem info53 : (Try.prog.info? 53).map (fun i => (i.zero, i.size, i.bytes)) = some (some (.slice none 0 0), 1, 24) := by kernel_rfl
/-- Rows that are only read, of any kind. -/
def Res.poolG {α : Type} (d : Kd α) (e base : Nat) (L : List (Sl × List α)) : Res where
  P fp w := ∀ p ∈ L, d.R e w base fp (slV p.1) p.2
  mono h p q hq := Kd.R_mono (p q hq) h
  move h p q hq := (Res.row d e base (slV q.1) q.2).move h (p q hq)
theorem Sp.poolGC {α : Type} {d : Kd α} {e base : Nat} {w0 w : World} {rs : List Res} {i : Nat} {L : List (Sl × List α)} (h : Sp w0 rs w) (hi : rs[i]? = some (Res.poolG d e base L)) {p : Sl × List α} (hp : p ∈ L) : p.1.2.1 = p.2.length ∧ p.1.2.1 ≤ p.1.2.2 ∧ d.C w p.1.1 p.2.length p.2 := by
  obtain ⟨fp, hq, _⟩ := h.get hi
  have h1 := Kd.R_reads' (hq p hp)
  exact ⟨h1.1, h1.2.1, h1.2.2⟩
theorem Sp.poolGNil {α : Type} (d : Kd α) (e : Nat) {w0 w : World} {rs : List Res} (h : Sp w0 rs w) : Sp w0 (Res.poolG d e w0.heap.size [] :: rs) w := h.push (Below.refl _ _) (fun _ hp => by cases hp)
theorem Sp.poolGAdd {α : Type} {d : Kd α} {e base : Nat} {w0 w : World} {rs : List Res} {L : List (Sl × List α)} {A : Option Addr} {n c : Nat} {o : List α} (h : Sp w0 (Res.row d e base (.slice A n c) o :: Res.poolG d e base L :: rs) w) : Sp w0 (Res.poolG d e base (L ++ [((A, n, c), o)]) :: rs) w := by
  refine (Sp.star_close h).weak (i := 0) rfl (fun fp hp => ?_)
  obtain ⟨f1, f2, h1, h2, h3, h4⟩ := hp
  intro p hp
  rcases List.mem_append.1 hp with hp | hp
  · exact Kd.R_mono (h2 p hp) (fun k hk => h4 k (.inr hk))
  · obtain rfl := List.mem_singleton.1 hp
    exact Kd.R_mono h1 (fun k hk => h4 k (.inl hk))
theorem at_Sl {w : World} {A : Option Addr} {n : Nat} {xs : List Sl} (h : Kd.C kSl w A n xs) (i : Nat) (h1 : i < n) : ∃ ad , A = some ad ∧ w.cell? (ad.add i) = some (slV (xs.getD i (none, 0, 0))) := by
  obtain ⟨ad, c, e, _, hK, hc0⟩ := Kd.C_get h (none, 0, 0) (i : Int) (by omega) (by omega)
  rw [Int.toNat_natCast] at hK hc0
  have hc : ∀ j u, c[j]? = some u → w.cell? (ad.add (i * 1 + j)) = some u := hc0
  obtain rfl : c = [slV (xs.getD i (none, 0, 0))] := hK
  have := hc 0 _ rfl
  rw [Nat.mul_one, Nat.add_zero] at this
  exact ⟨ad, e, this⟩
theorem Sp.intCell {w0 w : World} {rs : List Res} {i e base n c : Nat} {ad : Addr} {xs : List Int} (h : Sp w0 rs w) (hi : rs[i]? = some (Res.row kI e base (.slice (some ad) n c) xs)) (j : Nat) (hj : j < n) : w.cell? (ad.add j) = some (.int .i64 (xs.getD j 0)) := by
  have hn := (Sp.reads h hi).1
  subst hn
  obtain ⟨ad2, e2, hx⟩ := Kd.at_int (Sp.reads h hi).2.2 (j : Int) (by omega) (by omega)
  injection e2 with e2
  subst e2
  rw [Int.toNat_natCast] at hx
  have e3 : rd xs (j : Int) = xs.getD j 0 := by rw [rd_nat xs j hj]; simp [List.getD_eq_getElem?_getD, hj]
  rw [e3] at hx
  exact hx
theorem Sp.slCell {w0 w : World} {rs : List Res} {i e base n c : Nat} {ad : Addr} {xs : List Sl} (h : Sp w0 rs w) (hi : rs[i]? = some (Res.row kSl e base (.slice (some ad) n c) xs)) (j : Nat) (hj : j < n) : w.cell? (ad.add j) = some (slV (xs.getD j (none, 0, 0))) := by
  have hn := (Sp.reads h hi).1
  subst hn
  obtain ⟨ad2, e2, hx⟩ := at_Sl (Sp.reads h hi).2.2 j hj
  injection e2 with e2
  subst e2
  exact hx
/-- The block of the statement's search. -/
abbrev srBlk (gs : Nat) (Ao : Option Addr) (no co : Nat) (Aw : Option Addr) (nw cw : Nat) (full : Bool) : Res := Res.blk gs #[.slice Ao no co, .slice Aw nw cw, .bool full] 83
abbrev posR (base : Nat) (Ao : Option Addr) (co : Nat) (PS : List (Sl × List Cb)) : Res := Res.row kSl 34 base (.slice Ao PS.length co) (PS.map Prod.fst)
set_option maxHeartbeats 4000000 in
set_option maxRecDepth 100000 in
theorem known_calls (w0 : World) (gs : Nat) (Ao Aw : Option Addr) (co nw cw : Nat) (full : Bool) (PS : List (Sl × List Cb)) (hl : PS.length ≤ 1200) (r : Res) (An : Option Addr) (cn : Nat) (nx : List Cb) (hr : Rds w0 r An nx) (hcn : nx.length ≤ cn) (hsm : ∀ p ∈ PS, ∃ K, spec_l28Same.f K p.2 nx = some (decide (p.2 = nx))) (rest : List Res) (w : World)
    (hs : Sp w0 ([srBlk gs Ao PS.length co Aw nw cw full, posR w0.heap.size Ao co PS, Res.poolG kC 69 w0.heap.size PS, r] ++ rest) w) :
    Calls Try.prog 106 #[.pointer (some ⟨gs, 0, none⟩), .slice An nx.length cn] w fun e w' => e = .returned (.bool ((PS.map Prod.snd).contains nx)) ∧ Sp w0 ([srBlk gs Ao PS.length co Aw nw cw full, posR w0.heap.size Ao co PS, Res.poolG kC 69 w0.heap.size PS, r] ++ rest) w' := by
  have HS := A0_ hs
  have HL := A0_ hl
  have HRD := A0_ hr
  have HCN := A0_ hcn
  have HSM := A0_ hsm
  clear hs hl hr hcn hsm
  go_enter Try.func106, Try.ntmps106
  go_wp2
  go_loopg [5] (PS.length + 1) (fun kq v5 w' => ∃ (i : Nat), v5 = .int .i64 (i : Int) ∧ Aside0 (i ≤ PS.length ∧ kq + i = PS.length + 1 ∧ ∀ j (hj : j < PS.length), j < i → PS[j].2 ≠ nx) ∧ Aside0 (Sp w0 ([srBlk gs Ao PS.length co Aw nw cw full, posR w0.heap.size Ao co PS, Res.poolG kC 69 w0.heap.size PS, r] ++ rest) w'))
  case atStart => exact ⟨0, rfl, ⟨by omega, by omega, fun j hj h => by omega⟩, HS⟩
  case round =>
    clear HS
    obtain ⟨i, rfl, HX, HS⟩ := hrel
    obtain ⟨k1, rfl⟩ : ∃ k1, gk = k1 + 1 := ⟨gk - 1, by have := HX.out; omega⟩
    have hs0 : wr.cell? ⟨gs, 0, none⟩ = some (.slice Ao PS.length co) := (blk_cell (Sp.blk HS.out (i := 0) rfl).1 0).trans rfl
    by_cases ci : i < PS.length
    · have ci0 : decide (i < PS.length) = true := decide_eq_true ci
      have q0 : (0 ≤ (i : Int)) = True := eq_true (by omega)
      have q1 : ((i : Int) < (PS.length : Int)) = True := eq_true (by omega)
      obtain ⟨adp, e, hx⟩ := at_Sl (Sp.reads HS.out (i := 1) rfl).2.2 i (by rw [List.length_map]; exact ci)
      subst e
      have hin : PS[i] ∈ PS := List.getElem_mem ci
      have hgd : (PS.map Prod.fst).getD i (none, 0, 0) = PS[i].1 := by simp [List.getD_eq_getElem?_getD, ci]
      rw [hgd] at hx
      obtain ⟨g1, g2, g3⟩ := Sp.poolGC HS.out (i := 2) rfl hin
      obtain ⟨K, hK⟩ := HSM.out _ hin
      have HNX := A0_ (fun (h : PS[i].2 ≠ nx) j (hj : j < PS.length) (h2 : j < i + 1) => show PS[j].2 ≠ nx by
        by_cases c : j = i
        · subst c; exact h
        · exact HX.out.2.2 j hj (by omega))
      have HYES := A0_ (fun (h : PS[i].2 = nx) => show (PS.map Prod.snd).contains nx = true by
        rw [List.contains_iff_mem, List.mem_map]
        exact ⟨_, hin, h⟩)
      have HW := A0_ (wrap_succ i (by have := HL.out; omega))
      generalize PS[i] = p at hx g1 g2 g3 hK HNX HYES
      obtain ⟨⟨A1, n1, c1⟩, o⟩ := p
      dsimp only at hx g1 g2 g3 hK HNX HYES
      subst g1
      have HC1 := A0_ g3
      have HC2 := A0_ g2
      have HC3 := A0_ (Sp.rds HS.out (i := 3) rfl HRD.out)
      clear hgd hin ci g2 g3
      by_cases ce : o = nx
      · rw [decide_eq_true ce] at hK
        have HK := A0_ hK
        have HY := A0_ (HYES.out ce)
        clear ce hK HNX HYES
        go_wp2_with (first
          | (go_at_call 119; refine (spec_l28Same.calls K A1 c1 o An cn nx true _ HC1.out HC2.out HC3.out HCN.out HK.out).mono ?_; rintro e wc_ ⟨rfl, hb_⟩; have HS_ := A0_ (Sp.far HS.out hb_); clear HS; have HS := HS_; clear HS_; clear hb_ hx hs0))
        go_ret
        exact ⟨by rw [HY.out]; rfl, HS.out⟩
      · rw [decide_eq_false ce] at hK
        have HK := A0_ hK
        have HN := A0_ (HNX.out ce)
        clear ce hK HNX HYES
        go_wp2_with (first
          | (go_at_call 119; refine (spec_l28Same.calls K A1 c1 o An cn nx false _ HC1.out HC2.out HC3.out HCN.out HK.out).mono ?_; rintro e wc_ ⟨rfl, hb_⟩; have HS_ := A0_ (Sp.far HS.out hb_); clear HS; have HS := HS_; clear HS_; clear hb_ hx hs0))
        go_roundg k1
        case measure => omega
        case rel =>
          rw [HW.out]
          exact ⟨i + 1, rfl, ⟨by have := of_decide_eq_true ci0; omega, by have := HX.out; omega, HN.out⟩, HS⟩
    · have ci0 : decide (i < PS.length) = false := decide_eq_false ci
      have HN := A0_ (show (PS.map Prod.snd).contains nx = false by
        rw [Bool.eq_false_iff]
        intro hc
        rw [List.contains_iff_mem, List.mem_map] at hc
        obtain ⟨p, hp, e⟩ := hc
        obtain ⟨j, hj, rfl⟩ := List.getElem_of_mem hp
        exact HX.out.2.2 j hj (by omega) e)
      clear ci
      go_wp2
      go_ret
      exact ⟨by rw [HN.out]; rfl, HS.out⟩
end Go.Proofs.Ytlbckkagjekhnaa.A

namespace Go.Proofs.Ytlbckkagjekhnaa.A
open Go.RowKit Go.Proofs.YtlbckkagjekhnaaW.PrintWords Go.Proofs.YtlbckkagjekhnaaW.PrintLast Go.Proofs.YtlbckkagjekhnaaW.PrintMore
attribute [local go_sem] max2_int min2_int max_two min_two max_three min_three max_four min_four   -- for this text's walks alone
set_option linter.unusedVariables false
set_option linter.unusedSimpArgs false
def spec_l01In.f (a0 : Int) (a1 : Int) (a2 : Int) : Option (Bool) := if a0 ≥ a1 then (some (decide (a0 ≤ a2))) else (some false)
set_option maxHeartbeats 8000000 in
set_option maxRecDepth 100000 in
theorem spec_l01In.calls (a0 : Int) (a1 : Int) (a2 : Int) (r : Bool) (w : World) (h : spec_l01In.f a0 a1 a2 = some r) :
    Calls Try.prog 45 #[.int .i64 a0, .int .i64 a1, .int .i64 a2] w fun e w' => e = .returned (.bool r) ∧ Drawn0 w w' := by
 (have H : (if a0 ≥ a1 then (some (decide (a0 ≤ a2))) else (some false)) = some r := h); clear h; (by_cases c4 : a0 ≥ a1)
 ·(rw [if_pos c4] at H); (have c4b0 : decide (a1 ≤ a0) = true := decide_eq_true c4); clear c4; (obtain rfl := Option.some.inj H); (go_enter Try.func45, Try.ntmps45); go_wp2; go_ret; (exact ⟨by first | rfl | (simp; done) | (simp [*]; done), by repeat (first | exact Drawn0.refl _ | apply Drawn0.step)⟩)
 ·(rw [if_neg c4] at H); (have c4b0 : decide (a1 ≤ a0) = false := decide_eq_false c4); clear c4; (obtain rfl := Option.some.inj H); (go_enter Try.func45, Try.ntmps45); go_wp2; go_ret; (exact ⟨by first | rfl | (simp; done) | (simp [*]; done), by repeat (first | exact Drawn0.refl _ | apply Drawn0.step)⟩)
end Go.Proofs.Ytlbckkagjekhnaa.A

namespace Go.Proofs.Ytlbckkagjekhnaa.A
open Go.RowKit Go.Proofs.YtlbckkagjekhnaaW.PrintWords Go.Proofs.YtlbckkagjekhnaaW.PrintLast Go.Proofs.YtlbckkagjekhnaaW.PrintMore
attribute [local go_sem] max2_int min2_int max_two min_two max_three min_three max_four min_four   -- for this text's walks alone
set_option linter.unusedVariables false
set_option linter.unusedSimpArgs false
attribute [local go_sem high] eqA69
def spec_l09Index.l0 : Nat → List (S69) → Int → Int → Int → Int → Option (Int)
  | 0, _, _, _, _, _ => none
  | k + 1, x0, x5, x126000, x126001, x126002 => if x5 < (x0.length : Int) then (if 0 ≤ x5 then (if (((rd_T69 x0 x5).f0) == x126000 && (((rd_T69 x0 x5).f1) == x126001 && (((rd_T69 x0 x5).f2) == x126002))) = true then (some x5) else (spec_l09Index.l0 k x0 (wrap64 (x5 + 1)) x126000 x126001 x126002)) else (none)) else (some (-1))
def spec_l09Index.f (k : Nat) (l0 : List (S69)) (a1_0 : Int) (a1_1 : Int) (a1_2 : Int) : Option (Int) := spec_l09Index.l0 k l0 0 a1_0 a1_1 a1_2
set_option maxHeartbeats 8000000 in
set_option maxRecDepth 100000 in
theorem spec_l09Index.calls (k : Nat) (A0 : Option Addr) (c0 : Nat) (l0 : List (S69)) (a1_0 : Int) (a1_1 : Int) (a1_2 : Int) (r : Int) (w : World) (hr0 : Kd.C k69 w A0 l0.length l0) (hc0 : l0.length ≤ c0) (h : spec_l09Index.f k l0 a1_0 a1_1 a1_2 = some r) :
    Calls Try.prog 102 #[.slice A0 l0.length c0, .agg #[.int .i64 a1_0, .int .i64 a1_1, .int .i64 a1_2]] w fun e w' => e = .returned (.int .i64 r) ∧ Below w.heap.size w w' := by
 (have hu69 := Try.underlying69); (have HR0 := A0_ hr0); (have HC0 := A0_ hc0); clear hr0 hc0; (have HB := A0_ (Below.refl w.heap.size w)); (have H : (spec_l09Index.l0 k l0 0 a1_0 a1_1 a1_2) = some r := h); clear h; (have H' := A0_ H); clear H; (go_enter Try.func102, Try.ntmps102); (go_wp2_with (first | ((with_reducible refine gate_dst (N := 3) rfl ?_); refine box_event ?hg (N := 3) ?hd (cs := #[.int .i64 a1_0, .int .i64 a1_1, .int .i64 a1_2]) (t := 69) ?hr ?_; (case hd => rfl); (case hg => rfl); (case hr => first | (go_simp; done) | (go_simp; rfl)); intro gb125 hg w3 hbox hb; have n0_ := A0_ (below_step (by repeat (first | (with_reducible first | exact HB.out | apply ba_ | apply bn_ | apply bd_) | exact HB.out)) hb); have n1_ := A0_ (hbox); have n2_ := A0_ ((by rw [hg]; exact (below_size (by repeat (first | (with_reducible first | exact HB.out | apply ba_ | apply bn_ | apply bd_) | exact HB.out))) : w.heap.size ≤ gb125)); have n3_ := A0_ ((by rw [hg]; exact (below_size (by repeat (first | (with_reducible first | exact HB.out | apply ba_ | apply bn_ | apply bd_) | exact HB.out))) : w.heap.size ≤ gb125)); clear HB; have HB := n0_; have BK125 := n1_; have GW125 := n2_; have GE125 := n3_; clear n0_ n1_ n2_ n3_; clear hb hbox hg))); (repeat (go_quiet (first | ((with_reducible refine gate_dst (N := 3) rfl ?_); refine box_event ?hg (N := 3) ?hd (cs := #[.int .i64 a1_0, .int .i64 a1_1, .int .i64 a1_2]) (t := 69) ?hr ?_; (case hd => rfl); (case hg => rfl); (case hr => first | (go_simp; done) | (go_simp; rfl)); intro gb125 hg w3 hbox hb; have n0_ := A0_ (below_step (by repeat (first | (with_reducible first | exact HB.out | apply ba_ | apply bn_ | apply bd_) | exact HB.out)) hb); have n1_ := A0_ (hbox); have n2_ := A0_ ((by rw [hg]; exact (below_size (by repeat (first | (with_reducible first | exact HB.out | apply ba_ | apply bn_ | apply bd_) | exact HB.out))) : w.heap.size ≤ gb125)); have n3_ := A0_ ((by rw [hg]; exact (below_size (by repeat (first | (with_reducible first | exact HB.out | apply ba_ | apply bn_ | apply bd_) | exact HB.out))) : w.heap.size ≤ gb125)); clear HB; have HB := n0_; have BK125 := n1_; have GW125 := n2_; have GE125 := n3_; clear n0_ n1_ n2_ n3_; clear hb hbox hg)); try go_wp2_with (first | ((with_reducible refine gate_dst (N := 3) rfl ?_); refine box_event ?hg (N := 3) ?hd (cs := #[.int .i64 a1_0, .int .i64 a1_1, .int .i64 a1_2]) (t := 69) ?hr ?_; (case hd => rfl); (case hg => rfl); (case hr => first | (go_simp; done) | (go_simp; rfl)); intro gb125 hg w3 hbox hb; have n0_ := A0_ (below_step (by repeat (first | (with_reducible first | exact HB.out | apply ba_ | apply bn_ | apply bd_) | exact HB.out)) hb); have n1_ := A0_ (hbox); have n2_ := A0_ ((by rw [hg]; exact (below_size (by repeat (first | (with_reducible first | exact HB.out | apply ba_ | apply bn_ | apply bd_) | exact HB.out))) : w.heap.size ≤ gb125)); have n3_ := A0_ ((by rw [hg]; exact (below_size (by repeat (first | (with_reducible first | exact HB.out | apply ba_ | apply bn_ | apply bd_) | exact HB.out))) : w.heap.size ≤ gb125)); clear HB; have HB := n0_; have BK125 := n1_; have GW125 := n2_; have GE125 := n3_; clear n0_ n1_ n2_ n3_; clear hb hbox hg))))
 go_loopg [5] k (fun kq v5 w' => ∃ (x5_1 : Int), v5 = .int .i64 x5_1 ∧ Aside0 (spec_l09Index.l0 kq l0 x5_1 a1_0 a1_1 a1_2 = some r) ∧ Aside0 (kq ≤ k) ∧ Aside0 (w'.heap[gb125]? = some (.cells #[.int .i64 a1_0, .int .i64 a1_1, .int .i64 a1_2] 69 (0, 0))) ∧ Aside0 (Below w.heap.size w w'))
 case atStart => exact ⟨(0), (by first | rfl | (simp; done) | (simp [*]; done)), H', ⟨Nat.le_refl _⟩, ⟨by (with_reducible repeat (first | apply gn_ | apply gd_ | apply ga_)); exact BK125.out⟩, ⟨by repeat (first | (with_reducible first | exact HB.out | apply ba_ | apply bn_ | apply bd_ | refine below_set ?_ GE125.out) | exact HB.out)⟩⟩
 case round =>
  clear H'; (try clear c1); (try clear p2); (obtain ⟨x5_1, rfl, HA, HK1, BK125, HB⟩ := hrel)
  cases gk with
  | zero => exact absurd HA.out (by simp [spec_l09Index.l0])
  | succ k1 =>
   (have H := HA.out); clear HA; (simp only [spec_l09Index.l0] at H); (by_cases c4 : x5_1 < (l0.length : Int))
   ·(rw [if_pos c4] at H); (have c4b0 : decide (x5_1 < (l0.length : Int)) = true := decide_eq_true c4); clear c4; (by_cases c5 : 0 ≤ x5_1)
    ·(rw [if_pos c5] at H); (have c5b0 : decide (0 ≤ x5_1) = true := decide_eq_true c5); clear c5; (by_cases c6 : (((rd_T69 l0 x5_1).f0) == a1_0 && (((rd_T69 l0 x5_1).f1) == a1_1 && (((rd_T69 l0 x5_1).f2) == a1_2))) = true)
     ·(rw [if_pos c6] at H); (have c6b0 : (((rd_T69 l0 x5_1).f0) == a1_0 && (((rd_T69 l0 x5_1).f1) == a1_1 && (((rd_T69 l0 x5_1).f2) == a1_2))) = true := c6); ((try (have c6b1 : decide (((rd_T69 l0 x5_1).f0) = a1_0 && (((rd_T69 l0 x5_1).f1) == a1_1 && (((rd_T69 l0 x5_1).f2) == a1_2))) = true := by simpa using c6))); ((try (have c6b2 : (((rd_T69 l0 x5_1).f0) == a1_0 && (((rd_T69 l0 x5_1).f1) == a1_1 && (((rd_T69 l0 x5_1).f2) == a1_2))) = true := by simpa using c6))); clear c6; (obtain rfl := Option.some.inj H); (have p126 : 0 ≤ (x5_1 : Int) := of_decide_eq_true (by first | (with_reducible assumption) | assumption)); (have q126 : x5_1 < (l0.length : Int) := of_decide_eq_true (by first | (with_reducible assumption) | assumption)); (obtain ⟨ad126, e126, hx126_0, hx126_1, hx126_2⟩ := at_T69 HR0.out x5_1 p126 q126); (cases e126); (replace hx126_0 := (HB.out.cell (World.block_lt_of_cell? w _ hx126_0)).trans hx126_0); (replace hx126_1 := (HB.out.cell (World.block_lt_of_cell? w _ hx126_1)).trans hx126_1); (replace hx126_2 := (HB.out.cell (World.block_lt_of_cell? w _ hx126_2)).trans hx126_2); (replace p126 := eq_true p126); (replace q126 := eq_true q126); (have hcz7_0 : wr.cell? ⟨gb125, 0, none⟩ = some (.int .i64 a1_0) := (blk_cell BK125.out 0).trans rfl); (have hcz7_1 : wr.cell? ⟨gb125, 1, none⟩ = some (.int .i64 a1_1) := (blk_cell BK125.out 1).trans rfl); (have hcz7_2 : wr.cell? ⟨gb125, 2, none⟩ = some (.int .i64 a1_2) := (blk_cell BK125.out 2).trans rfl); (have hfz7_0 := blk_frozen BK125.out 0); (have hfz7_1 := blk_frozen BK125.out 1); (have hfz7_2 := blk_frozen BK125.out 2); go_wp2; (repeat (go_quiet (fail); try go_wp2)); go_ret; (exact ⟨by first | rfl | (simp [errW_none, errW_some] <;> rfl) | (simp [*, errW_none, errW_some] <;> rfl), by repeat (first | (with_reducible first | exact HB.out | apply ba_ | apply bn_ | apply bd_ | refine below_set ?_ GE125.out) | exact HB.out)⟩)
     ·(rw [if_neg c6] at H); (have c6b0 : (((rd_T69 l0 x5_1).f0) == a1_0 && (((rd_T69 l0 x5_1).f1) == a1_1 && (((rd_T69 l0 x5_1).f2) == a1_2))) = false := by simpa using c6); ((try (have c6b1 : decide (((rd_T69 l0 x5_1).f0) = a1_0 && (((rd_T69 l0 x5_1).f1) == a1_1 && (((rd_T69 l0 x5_1).f2) == a1_2))) = false := by simpa using c6))); ((try (have c6b2 : (((rd_T69 l0 x5_1).f0) == a1_0 && (((rd_T69 l0 x5_1).f1) == a1_1 && (((rd_T69 l0 x5_1).f2) == a1_2))) = false := by simpa using c6))); ((try (have c6b3 : ¬ (((rd_T69 l0 x5_1).f0) = a1_0 && (((rd_T69 l0 x5_1).f1) == a1_1 && (((rd_T69 l0 x5_1).f2) == a1_2))) := by simpa using c6))); clear c6; (have H' := A0_ H); clear H; (have p126 : 0 ≤ (x5_1 : Int) := of_decide_eq_true (by first | (with_reducible assumption) | assumption)); (have q126 : x5_1 < (l0.length : Int) := of_decide_eq_true (by first | (with_reducible assumption) | assumption)); (obtain ⟨ad126, e126, hx126_0, hx126_1, hx126_2⟩ := at_T69 HR0.out x5_1 p126 q126); (cases e126); (replace hx126_0 := (HB.out.cell (World.block_lt_of_cell? w _ hx126_0)).trans hx126_0); (replace hx126_1 := (HB.out.cell (World.block_lt_of_cell? w _ hx126_1)).trans hx126_1); (replace hx126_2 := (HB.out.cell (World.block_lt_of_cell? w _ hx126_2)).trans hx126_2); (replace p126 := eq_true p126); (replace q126 := eq_true q126); (have hcz8_0 : wr.cell? ⟨gb125, 0, none⟩ = some (.int .i64 a1_0) := (blk_cell BK125.out 0).trans rfl); (have hcz8_1 : wr.cell? ⟨gb125, 1, none⟩ = some (.int .i64 a1_1) := (blk_cell BK125.out 1).trans rfl); (have hcz8_2 : wr.cell? ⟨gb125, 2, none⟩ = some (.int .i64 a1_2) := (blk_cell BK125.out 2).trans rfl); (have hfz8_0 := blk_frozen BK125.out 0); (have hfz8_1 := blk_frozen BK125.out 1); (have hfz8_2 := blk_frozen BK125.out 2); go_wp2; (repeat (go_quiet (fail); try go_wp2)); (go_roundg k1)
      case measure => have := HK1.out; omega
      case rel => exact ⟨(wrap64 (x5_1 + 1)), (by first | rfl | (simp; done) | (simp [*]; done)), H', ⟨by have := HK1.out; omega⟩, ⟨by (with_reducible repeat (first | apply gn_ | apply gd_ | apply ga_)); exact BK125.out⟩, ⟨by repeat (first | (with_reducible first | exact HB.out | apply ba_ | apply bn_ | apply bd_ | refine below_set ?_ GE125.out) | exact HB.out)⟩⟩
    ·(rw [if_neg c5] at H); (exact absurd H (by simp))
   ·(rw [if_neg c4] at H); (have c4b0 : decide (x5_1 < (l0.length : Int)) = false := decide_eq_false c4); clear c4; (obtain rfl := Option.some.inj H); go_wp2; (repeat (go_quiet (fail); try go_wp2)); go_ret; (exact ⟨by first | rfl | (simp [errW_none, errW_some] <;> rfl) | (simp [*, errW_none, errW_some] <;> rfl), by repeat (first | (with_reducible first | exact HB.out | apply ba_ | apply bn_ | apply bd_ | refine below_set ?_ GE125.out) | exact HB.out)⟩)
end Go.Proofs.Ytlbckkagjekhnaa.A

namespace Go.Proofs.Ytlbckkagjekhnaa.A
open Go.RowKit Go.Proofs.YtlbckkagjekhnaaW.PrintWords Go.Proofs.YtlbckkagjekhnaaW.PrintLast Go.Proofs.YtlbckkagjekhnaaW.PrintMore
attribute [local go_sem] max2_int min2_int max_two min_two max_three min_three max_four min_four   -- for this text's walks alone
set_option linter.unusedVariables false
set_option linter.unusedSimpArgs false
def spec_l09Add.f (a0_0 : Int) (a0_1 : Int) (a0_2 : Int) (a1_0 : Int) (a1_1 : Int) (a1_2 : Int) : Option (Int × Int × Int) := some (wrap64 (a0_0 + a1_0), wrap64 (a0_1 + a1_1), wrap64 (a0_2 + a1_2))
set_option maxHeartbeats 8000000 in
set_option maxRecDepth 100000 in
theorem spec_l09Add.calls (a0_0 : Int) (a0_1 : Int) (a0_2 : Int) (a1_0 : Int) (a1_1 : Int) (a1_2 : Int) (r1 : Int) (r2 : Int) (r3 : Int) (w : World) (h : spec_l09Add.f a0_0 a0_1 a0_2 a1_0 a1_1 a1_2 = some (r1, r2, r3)) :
    Calls Try.prog 96 #[.agg #[.int .i64 a0_0, .int .i64 a0_1, .int .i64 a0_2], .agg #[.int .i64 a1_0, .int .i64 a1_1, .int .i64 a1_2]] w fun e w' => e = .returned (.agg #[.int .i64 r1, .int .i64 r2, .int .i64 r3]) ∧ Below w.heap.size w w' := by
 (have hu69 := Try.underlying69); (have HB := A0_ (Below.refl w.heap.size w)); (have H : (some (wrap64 (a0_0 + a1_0), wrap64 (a0_1 + a1_1), wrap64 (a0_2 + a1_2))) = some (r1, r2, r3) := h); clear h; (simp only [Option.some.injEq, Prod.mk.injEq] at H); (obtain ⟨rfl, rfl, rfl⟩ := H); (go_enter Try.func96, Try.ntmps96); (go_wp2_with (first | ((with_reducible refine gate_dst (N := 2) rfl ?_); refine box_event ?hg (N := 2) ?hd (cs := #[.int .i64 a0_0, .int .i64 a0_1, .int .i64 a0_2]) (t := 69) ?hr ?_; (case hd => rfl); (case hg => rfl); (case hr => first | (go_simp; done) | (go_simp; rfl)); intro gb119 hg w3 hbox hb; have n0_ := A0_ (below_step (by repeat (first | (with_reducible first | exact HB.out | apply ba_ | apply bn_ | apply bd_) | exact HB.out)) hb); have n1_ := A0_ (hbox); have n2_ := A0_ ((by rw [hg]; exact (below_size (by repeat (first | (with_reducible first | exact HB.out | apply ba_ | apply bn_ | apply bd_) | exact HB.out))) : w.heap.size ≤ gb119)); have n3_ := A0_ ((by rw [hg]; exact (below_size (by repeat (first | (with_reducible first | exact HB.out | apply ba_ | apply bn_ | apply bd_) | exact HB.out))) : w.heap.size ≤ gb119)); clear HB; have HB := n0_; have BK119 := n1_; have GW119 := n2_; have GE119 := n3_; clear n0_ n1_ n2_ n3_; clear hb hbox hg) | ((with_reducible refine gate_dst (N := 3) rfl ?_); refine box_event ?hg (N := 3) ?hd (cs := #[.int .i64 a1_0, .int .i64 a1_1, .int .i64 a1_2]) (t := 69) ?hr ?_; (case hd => rfl); (case hg => rfl); (case hr => first | (go_simp; done) | (go_simp; rfl)); intro gb120 hg w4 hbox hb; have n0_ := A0_ (blk_below (g := gb119) (o := .cells #[.int .i64 a0_0, .int .i64 a0_1, .int .i64 a0_2] 69 (0, 0)) (by (with_reducible repeat (first | apply gn_ | apply gd_ | apply ga_)); exact BK119.out) hb); have n1_ := A0_ (below_step (by repeat (first | (with_reducible first | exact HB.out | apply ba_ | apply bn_ | apply bd_ | refine below_set ?_ GE119.out) | exact HB.out)) hb); have n2_ := A0_ (hbox); have n3_ := A0_ ((by rw [hg]; exact (below_size (by repeat (first | (with_reducible first | exact HB.out | apply ba_ | apply bn_ | apply bd_ | refine below_set ?_ GE119.out) | exact HB.out))) : w.heap.size ≤ gb120)); have n4_ := A0_ ((by rw [hg]; exact (below_size (by repeat (first | (with_reducible first | exact HB.out | apply ba_ | apply bn_ | apply bd_ | refine below_set ?_ GE119.out) | exact HB.out))) : w.heap.size ≤ gb120)); have n5_ := A0_ ((by rw [hg]; exact Nat.ne_of_lt (blk_lt (g := gb119) (o := .cells #[.int .i64 a0_0, .int .i64 a0_1, .int .i64 a0_2] 69 (0, 0)) (by (with_reducible repeat (first | apply gn_ | apply gd_ | apply ga_)); exact BK119.out)) : gb119 ≠ gb120)); have n6_ := A0_ ((by rw [hg]; exact Nat.ne_of_gt (blk_lt (g := gb119) (o := .cells #[.int .i64 a0_0, .int .i64 a0_1, .int .i64 a0_2] 69 (0, 0)) (by (with_reducible repeat (first | apply gn_ | apply gd_ | apply ga_)); exact BK119.out)) : gb120 ≠ gb119)); clear BK119; clear HB; have BK119 := n0_; have HB := n1_; have BK120 := n2_; have GW120 := n3_; have GE120 := n4_; have NB119_120 := n5_; have NB120_119 := n6_; clear n0_ n1_ n2_ n3_ n4_ n5_ n6_; clear hb hbox hg) | ((with_reducible refine gate_dst (N := 4) rfl ?_); refine box_event ?hg (N := 4) ?hd (cs := #[.int .i64 0, .int .i64 0, .int .i64 0]) (t := 69) ?hr ?_; (case hd => rfl); (case hg => rfl); (case hr => first | (go_simp; done) | (go_simp; rfl)); intro gb121 hg w5 hbox hb; have n0_ := A0_ (blk_below (g := gb119) (o := .cells #[.int .i64 a0_0, .int .i64 a0_1, .int .i64 a0_2] 69 (0, 0)) (by (with_reducible repeat (first | apply gn_ | apply gd_ | apply ga_)); exact BK119.out) hb); have n1_ := A0_ (blk_below (g := gb120) (o := .cells #[.int .i64 a1_0, .int .i64 a1_1, .int .i64 a1_2] 69 (0, 0)) (by (with_reducible repeat (first | apply gn_ | apply gd_ | apply ga_)); exact BK120.out) hb); have n2_ := A0_ (below_step (by repeat (first | (with_reducible first | exact HB.out | apply ba_ | apply bn_ | apply bd_ | refine below_set ?_ GE119.out | refine below_set ?_ GE120.out) | exact HB.out)) hb); have n3_ := A0_ (hbox); have n4_ := A0_ ((by rw [hg]; exact (below_size (by repeat (first | (with_reducible first | exact HB.out | apply ba_ | apply bn_ | apply bd_ | refine below_set ?_ GE119.out | refine below_set ?_ GE120.out) | exact HB.out))) : w.heap.size ≤ gb121)); have n5_ := A0_ ((by rw [hg]; exact (below_size (by repeat (first | (with_reducible first | exact HB.out | apply ba_ | apply bn_ | apply bd_ | refine below_set ?_ GE119.out | refine below_set ?_ GE120.out) | exact HB.out))) : w.heap.size ≤ gb121)); have n6_ := A0_ ((by rw [hg]; exact Nat.ne_of_lt (blk_lt (g := gb119) (o := .cells #[.int .i64 a0_0, .int .i64 a0_1, .int .i64 a0_2] 69 (0, 0)) (by (with_reducible repeat (first | apply gn_ | apply gd_ | apply ga_)); exact BK119.out)) : gb119 ≠ gb121)); have n7_ := A0_ ((by rw [hg]; exact Nat.ne_of_gt (blk_lt (g := gb119) (o := .cells #[.int .i64 a0_0, .int .i64 a0_1, .int .i64 a0_2] 69 (0, 0)) (by (with_reducible repeat (first | apply gn_ | apply gd_ | apply ga_)); exact BK119.out)) : gb121 ≠ gb119)); have n8_ := A0_ ((by rw [hg]; exact Nat.ne_of_lt (blk_lt (g := gb120) (o := .cells #[.int .i64 a1_0, .int .i64 a1_1, .int .i64 a1_2] 69 (0, 0)) (by (with_reducible repeat (first | apply gn_ | apply gd_ | apply ga_)); exact BK120.out)) : gb120 ≠ gb121)); have n9_ := A0_ ((by rw [hg]; exact Nat.ne_of_gt (blk_lt (g := gb120) (o := .cells #[.int .i64 a1_0, .int .i64 a1_1, .int .i64 a1_2] 69 (0, 0)) (by (with_reducible repeat (first | apply gn_ | apply gd_ | apply ga_)); exact BK120.out)) : gb121 ≠ gb120)); clear BK119; clear BK120; clear HB; have BK119 := n0_; have BK120 := n1_; have HB := n2_; have BK121 := n3_; have GW121 := n4_; have GE121 := n5_; have NB119_121 := n6_; have NB121_119 := n7_; have NB120_121 := n8_; have NB121_120 := n9_; clear n0_ n1_ n2_ n3_ n4_ n5_ n6_ n7_ n8_ n9_; clear hb hbox hg; have hnb6 := NB119_120.out; have hnc6 := NB120_119.out; have hnb7 := NB119_121.out; have hnc7 := NB121_119.out; have hcz8_0 : w5.cell? ⟨gb119, 0, none⟩ = some (.int .i64 a0_0) := (blk_cell BK119.out 0).trans rfl; have hcz8_1 : w5.cell? ⟨gb119, 1, none⟩ = some (.int .i64 a0_1) := (blk_cell BK119.out 1).trans rfl; have hcz8_2 : w5.cell? ⟨gb119, 2, none⟩ = some (.int .i64 a0_2) := (blk_cell BK119.out 2).trans rfl; have hfz8_0 := blk_frozen BK119.out 0; have hfz8_1 := blk_frozen BK119.out 1; have hfz8_2 := blk_frozen BK119.out 2; have hnb9 := NB120_121.out; have hnc9 := NB121_120.out; have hcz10_0 : w5.cell? ⟨gb120, 0, none⟩ = some (.int .i64 a1_0) := (blk_cell BK120.out 0).trans rfl; have hcz10_1 : w5.cell? ⟨gb120, 1, none⟩ = some (.int .i64 a1_1) := (blk_cell BK120.out 1).trans rfl; have hcz10_2 : w5.cell? ⟨gb120, 2, none⟩ = some (.int .i64 a1_2) := (blk_cell BK120.out 2).trans rfl; have hfz10_0 := blk_frozen BK120.out 0; have hfz10_1 := blk_frozen BK120.out 1; have hfz10_2 := blk_frozen BK120.out 2; have hcz11_0 : w5.cell? ⟨gb121, 0, none⟩ = some (.int .i64 0) := (blk_cell BK121.out 0).trans rfl; have hcz11_1 : w5.cell? ⟨gb121, 1, none⟩ = some (.int .i64 0) := (blk_cell BK121.out 1).trans rfl; have hcz11_2 : w5.cell? ⟨gb121, 2, none⟩ = some (.int .i64 0) := (blk_cell BK121.out 2).trans rfl; have hfz11_0 := blk_frozen BK121.out 0; have hfz11_1 := blk_frozen BK121.out 1; have hfz11_2 := blk_frozen BK121.out 2))); (refine bodyPost_ret (results_cell_row rfl _ _ gb121 69 #[.int .i64 (wrap64 (a0_0 + a1_0)), .int .i64 (wrap64 (a0_1 + a1_1)), .int .i64 (wrap64 (a0_2 + a1_2))] (0, 0) _ rfl (by (with_reducible repeat (first | apply gn_ | apply gd_ | apply ga_)); refine blk_put (cs := #[.int .i64 (wrap64 (a0_0 + a1_0)), .int .i64 (wrap64 (a0_1 + a1_1)), .int .i64 0]) ?_ 2 _ rfl; (with_reducible repeat (first | apply gn_ | apply gd_ | apply ga_)); refine blk_put (cs := #[.int .i64 (wrap64 (a0_0 + a1_0)), .int .i64 0, .int .i64 0]) ?_ 1 _ rfl; (with_reducible repeat (first | apply gn_ | apply gd_ | apply ga_)); refine blk_put (cs := #[.int .i64 0, .int .i64 0, .int .i64 0]) ?_ 0 _ rfl; (with_reducible repeat (first | apply gn_ | apply gd_ | apply ga_)); exact BK121.out) Try.underlying69 rfl (by kernel_rfl)) rfl ?_); (exact ⟨by first | rfl | (simp [errW_none, errW_some] <;> rfl) | (simp [*, errW_none, errW_some] <;> rfl), by repeat (first | (with_reducible first | exact HB.out | apply ba_ | apply bn_ | apply bd_ | refine below_set ?_ GE119.out | refine below_set ?_ GE120.out | refine below_set ?_ GE121.out) | exact HB.out)⟩)
end Go.Proofs.Ytlbckkagjekhnaa.A

namespace Go.Proofs.Ytlbckkagjekhnaa.A
open Go.RowKit Go.Proofs.YtlbckkagjekhnaaW.PrintWords Go.Proofs.YtlbckkagjekhnaaW.PrintLast Go.Proofs.YtlbckkagjekhnaaW.PrintMore
attribute [local go_sem] max2_int min2_int max_two min_two max_three min_three max_four min_four   -- for this text's walks alone
set_option linter.unusedVariables false
set_option linter.unusedSimpArgs false
def spec_l09Move.l0 : Nat → List (S69) → List (S69) → Int → Int → Int → Int → Option ((List (S69)))
  | 0, _, _, _, _, _, _ => none
  | k + 1, x0, x5, x6, x152000, x152001, x152002 => if x6 < (x0.length : Int) then (if 0 ≤ x6 then ((spec_l09Add.f ((rd_T69 x0 x6).f0) ((rd_T69 x0 x6).f1) ((rd_T69 x0 x6).f2) x152000 x152001 x152002).bind fun bt156 => (if x5.length < 5864062014805 then (spec_l09Move.l0 k x0 (x5 ++ [(⟨bt156.1, bt156.2.1, bt156.2.2⟩ : S69)]) (wrap64 (x6 + 1)) x152000 x152001 x152002) else (none))) else (none)) else (some x5)
def spec_l09Move.f (k : Nat) (l0 : List (S69)) (a1_0 : Int) (a1_1 : Int) (a1_2 : Int) : Option ((List (S69))) := spec_l09Move.l0 k l0 (([] : List (S69))) 0 a1_0 a1_1 a1_2
def spec_l09Move.T5 : Bool × List (List Nat × List Nat) := (true, [([], []), ([], []), ([], []), ([1, 2], [1, 2]), ([3], [3]), ([], []), ([4, 5], [4, 5]), ([6], [6]), ([0, 7, 6], [0, 7]), ([8, 8, 0, 1, 2, 3, 4, 5, 6, 7, 8], [0, 8])])
def spec_l09Move.B5 : List Nat := [0, 0, 0, 6, 14, 0, 62, 126, 255, 511]
theorem spec_l09Move.tab5 : rtab .any (opsOf Try.f71 5) = spec_l09Move.T5 := by kernel_rfl
theorem spec_l09Move.bits5 : waitsOk spec_l09Move.T5.2 spec_l09Move.B5 = true := by kernel_rfl
set_option maxHeartbeats 8000000 in
set_option maxRecDepth 100000 in
theorem spec_l09Move.calls (k : Nat) (A0 : Option Addr) (c0 : Nat) (l0 : List (S69)) (a1_0 : Int) (a1_1 : Int) (a1_2 : Int) (r : List (S69)) (w : World) (hr0 : Kd.C k69 w A0 l0.length l0) (hc0 : l0.length ≤ c0) (h : spec_l09Move.f k l0 a1_0 a1_1 a1_2 = some r) :
    Calls Try.prog 71 #[.slice A0 l0.length c0, .agg #[.int .i64 a1_0, .int .i64 a1_1, .int .i64 a1_2]] w fun e w' => ∃ v0_ : Value, e = .returned (v0_) ∧ Kd.R k69 69 w' w.heap.size (fun _ => True) v0_ r ∧ Below w.heap.size w w' := by
 (have hu69 := Try.underlying69); (have HR0 := A0_ hr0); (have HC0 := A0_ hc0); clear hr0 hc0; (have HB := A0_ (Below.refl w.heap.size w)); (have H : (spec_l09Move.l0 k l0 (([] : List (S69))) 0 a1_0 a1_1 a1_2) = some r := h); clear h; (obtain ⟨y152, hy152⟩ : ∃ y_ : List (S69), y_ = (([] : List (S69))) := ⟨_, rfl⟩); (replace H : (spec_l09Move.l0 k l0 y152 0 a1_0 a1_1 a1_2) = some r := by first | (rw [hy152]; with_reducible exact H) | (have H2_ := (Option.bind_some _ _).symm.trans H; rw [hy152]; with_reducible exact H2_) | (have H2_ := (Option.bind_some _ _).symm.trans H; with_reducible exact H2_) | with_reducible exact H | (rw [hy152]; exact H) | exact H); (have Ny152 := A0_ hy152); clear hy152; (have H' := A0_ H); clear H; (go_enter Try.func71, Try.ntmps71)
 go_wp2_with (first | ((with_reducible refine gate_dst (N := 3) rfl ?_); refine box_event ?hg (N := 3) ?hd (cs := #[.int .i64 a1_0, .int .i64 a1_1, .int .i64 a1_2]) (t := 69) ?hr ?_; (case hd => rfl); (case hg => rfl); (case hr => first | (go_simp; done) | (go_simp; rfl)); intro gb151 hg w3 hbox hb; have n0_ := A0_ (below_step (by repeat (first | (with_reducible first | exact HB.out | apply ba_ | apply bn_ | apply bd_) | exact HB.out)) hb); have n1_ := A0_ (hbox); have n2_ := A0_ ((by rw [hg]; exact (below_size (by repeat (first | (with_reducible first | exact HB.out | apply ba_ | apply bn_ | apply bd_) | exact HB.out))) : w.heap.size ≤ gb151)); have n3_ := A0_ ((by rw [hg]; exact (below_size (by repeat (first | (with_reducible first | exact HB.out | apply ba_ | apply bn_ | apply bd_) | exact HB.out))) : w.heap.size ≤ gb151)); clear HB; have HB := n0_; have BK151 := n1_; have GW151 := n2_; have GE151 := n3_; clear n0_ n1_ n2_ n3_; clear hb hbox hg) | ((with_reducible refine gate_dst (N := 7) rfl ?_); refine Kd.R_lit k69 _ 69 ?hg (N := 7) ?hd (xs := ([] : List (S69))) (inner := []) (ok := fun _ => True) (okp := fun _ => True) ?hr ?hp (fun _ hk => hk) trivial (Below.refl _ _) (Nat.le_refl _) (by simp) ?_; (case hd => rfl); (case hg => rfl); (case hr => first | (go_simp; done) | (go_simp; rfl)); (case hp => exact (Reps.none _ _)); intro v153 w4 ho5 hb hg_ hnew_; clear hg_ hnew_; (first | rw [← Ny152.out] at ho5 | (simp only [Int.reduceToNat] at ho5; rw [← Ny152.out] at ho5)); have n0_ := A0_ (Kd.R_lower (Kd.R_newB ho5 (g := gb151) (o := .cells #[.int .i64 a1_0, .int .i64 a1_1, .int .i64 a1_2] 69 (0, 0)) (by (with_reducible repeat (first | apply gn_ | apply gd_ | apply ga_)); exact BK151.out)) (below_size (by repeat (first | (with_reducible first | exact HB.out | apply ba_ | apply bn_ | apply bd_ | refine below_set ?_ GE151.out) | exact HB.out)))); have n1_ := A0_ (blk_below (g := gb151) (o := .cells #[.int .i64 a1_0, .int .i64 a1_1, .int .i64 a1_2] 69 (0, 0)) (by (with_reducible repeat (first | apply gn_ | apply gd_ | apply ga_)); exact BK151.out) hb); have n2_ := A0_ (below_step (by repeat (first | (with_reducible first | exact HB.out | apply ba_ | apply bn_ | apply bd_ | refine below_set ?_ GE151.out) | exact HB.out)) hb); clear BK151; clear HB; have HO154 := n0_; have BK151 := n1_; have HB := n2_; clear n0_ n1_ n2_; clear hb ho5))
 go_loopg [5, 6] k (fun kq v5 v6 w' => ∃ (x5_1 : List (S69)) (x6_1 : Int), v6 = .int .i64 x6_1 ∧ Aside0 (spec_l09Move.l0 kq l0 x5_1 x6_1 a1_0 a1_1 a1_2 = some r) ∧ Aside0 (kq ≤ k) ∧ Aside0 (Kd.R k69 69 w' w.heap.size (fun k_ => k_ ≠ gb151) v5 x5_1) ∧ Aside0 (w'.heap[gb151]? = some (.cells #[.int .i64 a1_0, .int .i64 a1_1, .int .i64 a1_2] 69 (0, 0))) ∧ Aside0 (Below w.heap.size w w'))
 case atStart => exact ⟨(y152), (0), (by first | rfl | (simp; done) | (simp [*]; done)), H', ⟨Nat.le_refl _⟩, ⟨by (with_reducible repeat (first | apply Ra_ | apply Rn_ | apply Rd_)); exact Kd.R_mono HO154.out (fun _ hk => hk.2)⟩, ⟨by (with_reducible repeat (first | apply gn_ | apply gd_ | apply ga_)); exact BK151.out⟩, ⟨by repeat (first | (with_reducible first | exact HB.out | apply ba_ | apply bn_ | apply bd_ | refine below_set ?_ GE151.out) | exact HB.out)⟩⟩
 case round =>
  clear H'; (try clear p2); (obtain ⟨x5_1, x6_1, rfl, HA, HK1, HO_5, BK151, HB⟩ := hrel)
  cases gk with
  | zero => exact absurd HA.out (by simp [spec_l09Move.l0])
  | succ k1 =>
   (have H := HA.out); clear HA; (simp only [spec_l09Move.l0] at H); (by_cases c6 : x6_1 < (l0.length : Int))
   ·(rw [if_pos c6] at H); (have c6b0 : decide (x6_1 < (l0.length : Int)) = true := decide_eq_true c6); clear c6; (by_cases c7 : 0 ≤ x6_1)
    ·(rw [if_pos c7] at H); (have c7b0 : decide (0 ≤ x6_1) = true := decide_eq_true c7); clear c7; (replace H := Option.bind_eq_some_iff.mp H); (obtain ⟨⟨t156, t157, t158⟩, A80, H⟩ := H); (try dsimp only at H); (have A8 := A0_ A80); clear A80; (by_cases c9 : x5_1.length < 5864062014805)
     ·(rw [if_pos c9] at H); (have LMc9 := A0_ c9); clear c9; (obtain ⟨y159, hy159⟩ : ∃ y_ : List (S69), y_ = (x5_1 ++ [(⟨t156, t157, t158⟩ : S69)]) := ⟨_, rfl⟩); (replace H : (spec_l09Move.l0 k1 l0 y159 (wrap64 (x6_1 + 1)) a1_0 a1_1 a1_2) = some r := by first | (rw [hy159]; with_reducible exact H) | (have H2_ := (Option.bind_some _ _).symm.trans H; rw [hy159]; with_reducible exact H2_) | (have H2_ := (Option.bind_some _ _).symm.trans H; with_reducible exact H2_) | with_reducible exact H | (rw [hy159]; exact H) | exact H); (have Ny159 := A0_ hy159); clear hy159; (have H' := A0_ H); clear H; (try go_wp2); (have n0_ := A0_ (Kd.R_drew HO_5.out)); (have n1_ := A0_ (blk_drew BK151.out)); (have n2_ := A0_ (below_drew1 HB.out)); clear HO_5; clear BK151; clear HB; (have HO_5 := n0_); (have BK151 := n1_); (have HB := n2_); clear n0_ n1_ n2_; (have p155 : 0 ≤ (x6_1 : Int) := of_decide_eq_true (by first | (with_reducible assumption) | assumption)); (have q155 : x6_1 < (l0.length : Int) := of_decide_eq_true (by first | (with_reducible assumption) | assumption)); (obtain ⟨ad155, e155, hx155_0, hx155_1, hx155_2⟩ := at_T69 HR0.out x6_1 p155 q155); (have hw155_2 := hx155_2); (have hw155_1 := hx155_1); (have hw155_0 := hx155_0); (cases e155); (replace hx155_0 := (HB.out.cell (World.block_lt_of_cell? w _ hx155_0)).trans hx155_0); (replace hx155_1 := (HB.out.cell (World.block_lt_of_cell? w _ hx155_1)).trans hx155_1); (replace hx155_2 := (HB.out.cell (World.block_lt_of_cell? w _ hx155_2)).trans hx155_2); (replace p155 := eq_true p155); (replace q155 := eq_true q155)
      refine start_ (n := 10) (S := fun w' => w'.cell? ⟨gb151, 0, none⟩ = some (.int .i64 a1_0) ∧ w'.cell? ⟨gb151, 1, none⟩ = some (.int .i64 a1_1) ∧ w'.cell? ⟨gb151, 2, none⟩ = some (.int .i64 a1_2) ∧ w'.cell? (ad155.add ((x6_1).toNat * 3)) = some (.int .i64 ((rd_T69 l0 x6_1).f0)) ∧ w'.cell? ⟨(ad155.add ((x6_1).toNat * 3)).block, (ad155.add ((x6_1).toNat * 3)).off + 1, none⟩ = some (.int .i64 ((rd_T69 l0 x6_1).f1)) ∧ w'.cell? ⟨(ad155.add ((x6_1).toNat * 3)).block, (ad155.add ((x6_1).toNat * 3)).off + 2, none⟩ = some (.int .i64 ((rd_T69 l0 x6_1).f2))) (ds := []) #[ff,ff,ff,ff,ff,ff,ff,ff,ff,ff] (by kernel_rfl) rfl rfl ⟨(blk_cell BK151.out 0).trans rfl, (blk_cell BK151.out 1).trans rfl, (blk_cell BK151.out 2).trans rfl, ((HB.out.cell (World.block_lt_of_cell? w _ hw155_0)).trans hw155_0), ((HB.out.cell (World.block_lt_of_cell? w _ hw155_1)).trans hw155_1), ((HB.out.cell (World.block_lt_of_cell? w _ hw155_2)).trans hw155_2)⟩ (fun hHeld => ?_); refine with_tabW spec_l09Move.tab5 spec_l09Move.bits5 (fun HT_ HW_ => ?_)
      (generalize wr.drew = w10 at HO_5 BK151 HB hx155_0 hx155_1 hx155_2 hHeld ⊢)
      refine pure_ (i := 0) (N := some 14) (v := ?_) (a' := ?_) #[tt,ff,ff,ff,ff,ff,ff,ff,ff,ff] rfl rfl (any_of HT_.out (by kernel_rfl)) (fun _ _ _ h => h) (Or.inl ⟨by rfl, ?_⟩) ?_ ?_
      rotate_left
      ·intro w'; go_simp; with_reducible rfl
      rotate_left
      ·(simp only [Act.put, sia_, sz_, ss_, i64_w, i32_w]); rfl
      refine pure_ (i := 1) (N := some 15) (v := ?_) (a' := ?_) #[tt,tt,ff,ff,ff,ff,ff,ff,ff,ff] rfl rfl (any_of HT_.out (by kernel_rfl)) (fun _ _ _ h => h) (Or.inl ⟨by rfl, ?_⟩) ?_ ?_
      rotate_left
      ·intro w'; go_simp; with_reducible rfl
      rotate_left
      ·(simp only [Act.put, sia_, sz_, ss_, i64_w, i32_w]); rfl
      refine pure_ (i := 2) (N := some 16) (v := ?_) (a' := ?_) #[tt,tt,tt,ff,ff,ff,ff,ff,ff,ff] rfl rfl (any_of HT_.out (by kernel_rfl)) (fun _ _ _ h => h) (Or.inl ⟨by rfl, ?_⟩) ?_ ?_
      rotate_left
      ·intro w'; go_simp; with_reducible rfl
      rotate_left
      ·(simp only [Act.put, sia_, sz_, ss_, i64_w, i32_w]); rfl
      refine pure_ (i := 3) (N := some 17) (v := ?_) (a' := ?_) #[tt,tt,tt,tt,ff,ff,ff,ff,ff,ff] rfl rfl (any_of HT_.out (by kernel_rfl)) (fun _ _ _ h => h) (Or.inl ⟨by rfl, ?_⟩) ?_ ?_
      rotate_left
      ·intro w'; go_simp; with_reducible rfl
      rotate_left
      ·(simp only [Act.put, sia_, sz_, ss_, i64_w, i32_w]); rfl
      refine take_ (i := 4) (N := some 18) (v := ?_) (a' := ?_) #[tt,tt,tt,tt,tt,ff,ff,ff,ff,ff] rfl rfl (take_ofW HT_.out HW_.out (by kernel_rfl)) (fun _ _ _ h => h) (Or.inl ⟨by rfl, ?_⟩) hHeld ?_ ?_
      rotate_left
      ·(rintro w' ⟨s0, s1, s2, s3, s4, s5⟩); go_simp; with_reducible rfl
      rotate_left
      ·(simp only [Act.put, sia_, sz_, ss_, i64_w, i32_w]); rfl
      refine take_ (i := 5) (N := some 19) (v := ?_) (a' := ?_) #[tt,tt,tt,tt,tt,tt,ff,ff,ff,ff] rfl rfl (take_ofW HT_.out HW_.out (by kernel_rfl)) (fun _ _ _ h => h) (Or.inl ⟨by rfl, ?_⟩) hHeld ?_ ?_
      rotate_left
      ·(rintro w' ⟨s0, s1, s2, s3, s4, s5⟩); go_simp; with_reducible rfl
      rotate_left
      ·(simp only [Act.put, sia_, sz_, ss_, i64_w, i32_w]); rfl
      refine one_ (i := 6) (N := some 20) #[tt,tt,tt,tt,tt,tt,tt,ff,ff,ff] rfl rfl (one_of HT_.out (by kernel_rfl)) (by decide) (fun K hK => ?_)
      (refine goes_ Try.func96 (by kernel_rfl) rfl #[.agg #[.int .i64 ((rd_T69 l0 x6_1).f0), .int .i64 ((rd_T69 l0 x6_1).f1), .int .i64 ((rd_T69 l0 x6_1).f2)], .agg #[.int .i64 a1_0, .int .i64 a1_1, .int .i64 a1_2]] (by rfl) rfl rfl (by (try simp only [List.map_toArray, List.map_cons, List.map_nil]); first | done | rfl | (simp only [List.length_drop, List.length_take]; rfl)) ?_); (with_reducible refine (spec_l09Add.calls ((rd_T69 l0 x6_1).f0) ((rd_T69 l0 x6_1).f1) ((rd_T69 l0 x6_1).f2) a1_0 a1_1 a1_2 t156 t157 t158 _ A8.out).mono ?_); (rintro e w11 ⟨rfl, hb⟩); (refine ⟨_, rfl, ?_⟩); (have n0_ := A0_ (Kd.R_below (by (with_reducible repeat (first | apply Ra_ | apply Rn_ | apply Rd_)); exact HO_5.out) hb)); (have n1_ := A0_ (blk_below (g := gb151) (o := .cells #[.int .i64 a1_0, .int .i64 a1_1, .int .i64 a1_2] 69 (0, 0)) (by (with_reducible repeat (first | apply gn_ | apply gd_ | apply ga_)); exact BK151.out) hb)); (have n2_ := A0_ (below_step (by repeat (first | (with_reducible first | exact HB.out | apply ba_ | apply bn_ | apply bd_ | refine below_set ?_ GE151.out) | exact HB.out)) hb)); clear HO_5; clear BK151; clear HB; (have HO_5 := n0_); (have BK151 := n1_); (have HB := n2_); clear n0_ n1_ n2_; ((try clear hb)); ((try clear hb2)); ((try clear hk)); ((try clear hi))
      refine hK.out _ _ ⟨(blk_cell BK151.out 0).trans rfl, (blk_cell BK151.out 1).trans rfl, (blk_cell BK151.out 2).trans rfl, ((HB.out.cell (World.block_lt_of_cell? w _ hw155_0)).trans hw155_0), ((HB.out.cell (World.block_lt_of_cell? w _ hw155_1)).trans hw155_1), ((HB.out.cell (World.block_lt_of_cell? w _ hw155_2)).trans hw155_2)⟩ (fun hHeld => ?_)
      clear hK K; (refine norm_ (a' := ?_) ?_ ?_); rotate_left
      ·(show Act.put _ (some 20) _ = _); (simp only [Act.put, sia_, sz_, ss_, i64_w, i32_w]); rfl
      refine one_ (i := 7) (N := some 21) #[tt,tt,tt,tt,tt,tt,tt,tt,ff,ff] rfl rfl (one_of HT_.out (by kernel_rfl)) (by decide) (fun K hK => ?_)
      (refine value_ (w1 := ?_) (v := ?_) (by rfl) rfl ?_ ?_); (rotate_left 2)
      ·go_simp; (constructor)
       ·rfl
       ·rfl
      refine hK.out _ _ ⟨(blk_cell (blk_alloc BK151.out _) 0).trans rfl, (blk_cell (blk_alloc BK151.out _) 1).trans rfl, (blk_cell (blk_alloc BK151.out _) 2).trans rfl, (World.cell?_alloc_lt _ _ _ (World.block_lt_of_cell? _ _ (((HB.out.cell (World.block_lt_of_cell? w _ hw155_0)).trans hw155_0)))).trans (((HB.out.cell (World.block_lt_of_cell? w _ hw155_0)).trans hw155_0)), (World.cell?_alloc_lt _ _ _ (World.block_lt_of_cell? _ _ (((HB.out.cell (World.block_lt_of_cell? w _ hw155_1)).trans hw155_1)))).trans (((HB.out.cell (World.block_lt_of_cell? w _ hw155_1)).trans hw155_1)), (World.cell?_alloc_lt _ _ _ (World.block_lt_of_cell? _ _ (((HB.out.cell (World.block_lt_of_cell? w _ hw155_2)).trans hw155_2)))).trans (((HB.out.cell (World.block_lt_of_cell? w _ hw155_2)).trans hw155_2))⟩ (fun hHeld => ?_)
      clear hK K; (refine norm_ (a' := ?_) ?_ ?_); rotate_left
      ·(show Act.put _ (some 21) _ = _); (simp only [Act.put, sia_, sz_, ss_, i64_w, i32_w]); rfl
      refine one_ (i := 8) (N := some 22) #[tt,tt,tt,tt,tt,tt,tt,tt,tt,ff] rfl rfl (one_of HT_.out (by kernel_rfl)) (by decide) (fun K hK => ?_)
      refine Kd.R_append_step k69 (w0 := w) w.heap.size (by rfl) (.tmp 14) (.tmp 21) 34 69 (.agg #[(.int .i64 0), (.int .i64 0), (.int .i64 0)]) 24 rfl Try.underlying34 info69 rfl (by decide) (by omega) u5 x5_1 (⟨t156, t157, t158⟩ : S69) [.int .i64 t156, .int .i64 t157, .int .i64 t158] (fun k_ => k_ ≠ gb151) (fun _ => False) rfl rfl ?aP (fun _ hk => hk.elim) ?aF ?aO ?aB ?aS ?aL ?_
      ((case aP => exact k69_mkM _ _ _ (⟨t156, t157, t158⟩ : S69))); ((case aB => exact (by repeat (first | (with_reducible first | exact HB.out | apply ba_ | apply bn_ | apply bd_ | refine below_set ?_ GE151.out) | exact HB.out))))
      (case aF => exact (fun k_ hk => Kd.freshB (g := gb151) (o := .cells #[.int .i64 a1_0, .int .i64 a1_1, .int .i64 a1_2] 69 (0, 0)) (by (with_reducible repeat (first | apply gn_ | apply gd_ | apply ga_)); exact BK151.out) k_ hk))
      ((case aO => exact (by (with_reducible repeat (first | apply Ra_ | apply Rn_ | apply Rd_)); exact HO_5.out))); ((case aS => exact (below_size (by repeat (first | (with_reducible first | exact HB.out | apply ba_ | apply bn_ | apply bd_ | refine below_set ?_ GE151.out) | exact HB.out))))); ((case aL => have := LMc9.out; omega)); intro v160 w12 ho hb hg hat; (rw [← Ny159.out] at ho)
      have n0_ := A0_ (blk_grown (g := gb151) (o := .cells #[.int .i64 a1_0, .int .i64 a1_1, .int .i64 a1_2] 69 (0, 0)) (by (with_reducible repeat (first | apply gn_ | apply gd_ | apply ga_)); exact BK151.out) hg (Kd.R_away HO_5.out (fun _ hk => hk)))
      (have n1_ := A0_ (hb)); (have n2_ := A0_ (ho)); clear BK151; clear HB; clear HO_5; (have BK151 := n0_); (have HB := n1_); (have HO161 := n2_); clear n0_ n1_ n2_; clear ho hb hg hat
      refine hK.out _ _ ⟨(blk_cell BK151.out 0).trans rfl, (blk_cell BK151.out 1).trans rfl, (blk_cell BK151.out 2).trans rfl, ((HB.out.cell (World.block_lt_of_cell? w _ hw155_0)).trans hw155_0), ((HB.out.cell (World.block_lt_of_cell? w _ hw155_1)).trans hw155_1), ((HB.out.cell (World.block_lt_of_cell? w _ hw155_2)).trans hw155_2)⟩ (fun hHeld => ?_)
      clear hK K; (refine norm_ (a' := ?_) ?_ ?_); rotate_left
      ·(show Act.put _ (some 22) _ = _); (simp only [Act.put, sia_, sz_, ss_, i64_w, i32_w]); rfl
      refine pure_ (i := 9) (N := some 5) (v := ?_) (a' := ?_) #[tt,tt,tt,tt,tt,tt,tt,tt,tt,tt] rfl rfl (any_of HT_.out (by kernel_rfl)) (fun _ _ _ h => h) (Or.inl ⟨by rfl, ?_⟩) ?_ ?_
      rotate_left
      ·intro w'; go_simp; with_reducible rfl
      rotate_left
      ·(simp only [Act.put, sia_, sz_, ss_, i64_w, i32_w]); rfl
      (refine done_ (done_of HT_.out (by kernel_rfl)) ?_); (try go_wp2); (go_roundg k1)
      case measure => have := HK1.out; omega
      case rel => exact ⟨(y159), (wrap64 (x6_1 + 1)), (by first | rfl | (simp; done) | (simp [*]; done)), H', ⟨by have := HK1.out; omega⟩, ⟨by (with_reducible repeat (first | apply Ra_ | apply Rn_ | apply Rd_)); exact HO161.out⟩, ⟨by (with_reducible repeat (first | apply gn_ | apply gd_ | apply ga_)); exact BK151.out⟩, ⟨by repeat (first | (with_reducible first | exact HB.out | apply ba_ | apply bn_ | apply bd_ | refine below_set ?_ GE151.out) | exact HB.out)⟩⟩
     ·(rw [if_neg c9] at H); (exact absurd H (by simp))
    ·(rw [if_neg c7] at H); (exact absurd H (by simp))
   ·(rw [if_neg c6] at H); (have c6b0 : decide (x6_1 < (l0.length : Int)) = false := decide_eq_false c6); clear c6; (obtain rfl := Option.some.inj H); go_wp2; go_ret
    exact ⟨_, by first | rfl | (simp [errW_none, errW_some] <;> rfl) | (simp [*, errW_none, errW_some] <;> rfl), by (with_reducible repeat (first | apply Ra_ | apply Rn_ | apply Rd_)); exact Kd.R_mono HO_5.out (fun _ hk => trivial), by repeat (first | (with_reducible first | exact HB.out | apply ba_ | apply bn_ | apply bd_ | refine below_set ?_ GE151.out) | exact HB.out)⟩
end Go.Proofs.Ytlbckkagjekhnaa.A

