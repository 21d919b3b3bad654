/- What the row of the law FnExactRestOf stands on, part 4. -/
import Derived.Test.YtlbckkagjekhnaaMFnExactRestOf3
/- spec.l28Rest, walked. -/
namespace Go.Proofs.Ytlbckkagjekhnaa.A
open Go.RowKit Go.Proofs.YtlbckkagjekhnaaW.PrintWords Go.Proofs.YtlbckkagjekhnaaW.PrintLast Go.Proofs.YtlbckkagjekhnaaW.PrintMore
attribute [local go_sem] min2_int min_two
set_option linter.unusedVariables false
set_option linter.unusedSimpArgs false
def accR (parts : List (List Cb)) (offs : List Cb) (part i : Nat) : List (List Cb) := ((List.range i).filter fun k => decide (k ≠ part)).map fun k => shiftP (oAt offs k) (pAt parts k)
theorem accR_skip (parts : List (List Cb)) (offs : List Cb) (part i : Nat) (h : i = part) : accR parts offs part (i + 1) = accR parts offs part i := by
  unfold accR
  rw [List.range_succ, List.filter_append]
  simp [h]
theorem accR_next (parts : List (List Cb)) (offs : List Cb) (part i : Nat) (h : ¬ i = part) : accR parts offs part (i + 1) = accR parts offs part i ++ [shiftP (oAt offs i) (pAt parts i)] := by
  unfold accR
  rw [List.range_succ, List.filter_append]
  simp [h]
theorem range_erase (p : Nat) : ∀ n, p < n → (List.range n).filter (fun k => decide (k ≠ p)) = (List.range n).eraseIdx p
  | 0, h => by omega
  | n + 1, h => by
    rw [List.range_succ, List.filter_append]
    by_cases e : n = p
    · subst e
      rw [List.eraseIdx_append_of_length_le (by simp), List.length_range, Nat.sub_self]
      have h1 : (List.range n).filter (fun k => decide (k ≠ n)) = List.range n := by
        rw [List.filter_eq_self]
        intro k hk
        have := List.mem_range.1 hk
        simp
        omega
      rw [h1]
      simp
    · rw [List.eraseIdx_append_of_lt_length (by rw [List.length_range]; omega), range_erase p n (by omega)]
      simp [e]
theorem accR_all (parts : List (List Cb)) (offs : List Cb) (part : Nat) (h : part < parts.length) : accR parts offs part parts.length = (allMoved parts offs).eraseIdx part := by
  unfold accR allMoved
  rw [range_erase part _ h, erase_map]
theorem accR_flat (parts : List (List Cb)) (offs : List Cb) (part : Nat) (h : ∀ p ∈ parts, p.length ≤ 64) : ∀ i, i ≤ parts.length → (accR parts offs part i).flatten.length ≤ 64 * i
  | 0, _ => Nat.zero_le _
  | i + 1, hi => by
    have ih := accR_flat parts offs part h i (by omega)
    by_cases e : i = part
    · rw [accR_skip parts offs part i e]; omega
    · rw [accR_next parts offs part i e, List.flatten_append, List.length_append]
      have h1 := h _ (pAt_mem parts i (by omega))
      have h2 : [shiftP (oAt offs i) (pAt parts i)].flatten.length = (pAt parts i).length := by simp [shiftP]
      omega
theorem flat_pos {rows : List (List Cb)} (h : RowsOk rows) : 0 < rows.flatten.length := by
  cases rows with
  | nil => exact absurd h.1 (by simp)
  | cons p rest =>
    have hp := (h.2.2 p List.mem_cons_self).1
    rw [List.flatten_cons, List.length_append]
    omega
theorem neg_add (c q : Cb) : addC c ⟨wrap64 (-q.f0), wrap64 (-q.f1), wrap64 (-q.f2)⟩ = subC c q := by
  unfold addC subC
  simp only [S69.mk.injEq]
  unfold wrap64
  omega
theorem minC_self (a : Cb) : minC a a = a := by
  unfold minC
  simp
theorem least_same (rows : List (List Cb)) (h : RowsOk rows) : leastP rows = (rows.flatten.drop 1).foldl minC (cAt rows.flatten 0) := by
  cases rows with
  | nil => exact absurd h.1 (by simp)
  | cons p rest =>
    have hp := (h.2.2 p List.mem_cons_self).1
    cases p with
    | nil => simp at hp
    | cons a t =>
      show ((a :: t) :: rest).foldl (fun a p => p.foldl minC a) a = _
      rw [← List.foldl_flatten]
      show ((a :: t) ++ rest.flatten).foldl minC a = ((t ++ rest.flatten)).foldl minC a
      show (t ++ rest.flatten).foldl minC (minC a a) = _
      rw [minC_self]
theorem Sp.toEnd {w0 w : World} {r : Res} {rs : List Res} (h : Sp w0 (r :: rs) w) : Sp w0 (rs ++ [r]) w := by
  refine Sp.pick h (fun i => if i < rs.length then i + 1 else if i = rs.length then 0 else i) (fun i j e => ?_) (fun i s hi => ?_)
  · by_cases a : i < rs.length
    · by_cases b : j < rs.length
      · rw [if_pos a, if_pos b] at e; omega
      · rw [if_pos a, if_neg b] at e
        by_cases c : j = rs.length
        · rw [if_pos c] at e; omega
        · rw [if_neg c] at e; omega
    · rw [if_neg a] at e
      by_cases c : i = rs.length
      · rw [if_pos c] at e
        by_cases b : j < rs.length
        · rw [if_pos b] at e; omega
        · rw [if_neg b] at e
          by_cases d : j = rs.length
          · omega
          · rw [if_neg d] at e; omega
      · rw [if_neg c] at e
        by_cases b : j < rs.length
        · rw [if_pos b] at e; omega
        · rw [if_neg b] at e
          by_cases d : j = rs.length
          · rw [if_pos d] at e; omega
          · rw [if_neg d] at e; omega
  · by_cases a : i < rs.length
    · rw [if_pos a, List.getElem?_cons_succ]
      rwa [List.getElem?_append_left a] at hi
    · rw [if_neg a]
      rw [List.getElem?_append_right (by omega)] at hi
      have hl := (List.getElem?_eq_some_iff.1 hi).1
      have : i = rs.length := by simp at hl; omega
      subst this
      rw [if_pos rfl]
      rw [Nat.sub_self] at hi
      exact hi
theorem rowsOf_add (b : Nat) (L : List (Sl × List Cb)) (x : Sl × List Cb) : rowsOf b (L ++ [x]) = rowsOf b L ++ [Res.row kC 69 b (slV x.1) x.2] := by
  unfold rowsOf
  rw [List.map_append]
  rfl
theorem Sp.slStore {w0 w : World} {rs : List Res} {i e n cap : Nat} {ad : Addr} {xs : List Sl} (h : Sp w0 rs w) (hi : rs[i]? = some (Res.row kSl e w0.heap.size (.slice (some ad) n cap) xs)) (k : Nat) (hk : k < n) (s : Sl) :
    ∃ w1, (Instr.storeAt 34 (.pointer (some (ad.add k))) (slV s)).run Try.prog w = .ok () w1 ∧ Sp w0 (rs.set i (Res.row kSl e w0.heap.size (.slice (some ad) n cap) (xs.set k s))) w1 := by
  have h1 := Sp.rowStoreA (P := Try.prog) h hi k hk 34 (slV s) [slV s] rfl rfl (by kernel_rfl) (fun q hq => by rw [List.mem_singleton.1 hq]; rfl)
  have h2 := Sp.rowSetA h hi k hk s [slV s] rfl (fun okp => rfl)
  rw [show kSl.sz = 1 from rfl, Nat.mul_one] at h1 h2
  exact ⟨_, h1, h2⟩
def rstF.T7 : Bool × List (List Nat × List Nat) := (true, [([], []), ([], []), ([1], [1]), ([], []), ([2, 3], [2, 3]), ([4], [4]), ([], []), ([], []), ([6, 7], [6, 7]), ([8], [8]), ([5, 9], [5, 9]), ([10], [10]), ([0, 11, 10], [0, 11]), ([12, 12, 0, 1, 2, 3, 4, 5, 6, 7, 8, 9, 10, 11, 12], [0, 12])])
def rstF.B7 : List Nat := [0, 0, 2, 0, 14, 30, 0, 0, 192, 448, 1022, 2046, 4095, 8191]
theorem rstF.tab7 : rtab .any (opsOf Try.f46 7) = rstF.T7 := by kernel_rfl
theorem rstF.bits7 : waitsOk rstF.T7.2 rstF.B7 = true := by kernel_rfl
set_option maxHeartbeats 8000000 in
set_option maxRecDepth 100000 in
theorem sl28Rest_calls (Ap : Option Addr) (cp : Nat) (parts : List (List Cb)) (Ao : Option Addr) (co : Nat) (offs : List Cb) (part : Nat) (w : World) (hC : kP.C w Ap parts.length parts) (hcp : parts.length ≤ cp) (hO : kC.C w Ao offs.length offs) (hco : offs.length ≤ co)
    (hol : offs.length = parts.length) (hn : 2 ≤ parts.length ∧ parts.length ≤ 8) (hsz : ∀ p ∈ parts, 0 < p.length ∧ p.length ≤ 64) (hpt : part < parts.length) :
    Calls Try.prog 46 #[.agg #[.slice Ap parts.length cp], .slice Ao offs.length co, .int .i64 (part : Int)] w fun e w' => ∃ v_ : Value, e = .returned v_ ∧ Kd.S kC2 34 w' w.heap.size (fun _ => True) v_ (restP parts offs part) ∧ Below w.heap.size w w' := by
  have hu69 := Try.underlying69
  have hu34 := Try.underlying34
  have hu32 := Try.underlying32
  have HS := A0_ (Sp.start w)
  have hro := allMoved_ok parts offs part hn hsz hpt
  have hre : restP parts offs part = backP ((allMoved parts offs).eraseIdx part) := rfl
  rw [← accR_all parts offs part hpt] at hro hre
  have HC := A0_ hC
  have HCP := A0_ hcp
  have HO := A0_ hO
  have HCO := A0_ hco
  have HRO := A0_ hro
  have HRE := A0_ hre
  have HPT := A0_ hpt
  have HOL := A0_ hol
  have HN := A0_ hn
  have HSZ := A0_ hsz
  clear hC hcp hO hco hol hn hsz hpt hro hre
  go_enter Try.func46, Try.ntmps46
  go_wp2_with (first
    | ((with_reducible refine gate_dst (N := 3) rfl ?_); go_loud (refine box_event ?hg (N := 3) ?hd (cs := #[.slice Ap parts.length cp]) (t := 32) ?hr ?_; (case hd => rfl); (case hg => rfl); (case hr => first | (go_simp; done) | (go_simp; rfl)); intro ga hgb_ wb_ hcb_ hbb_; have HS_ := A0_ (Sp.boxed HS.out hgb_ hcb_ hbb_); clear HS; have HS := HS_; clear HS_; clear hgb_ hcb_ hbb_))
    | ((with_reducible refine gate_dst (N := 15) rfl ?_); go_loud (refine Kd.R_lit kSl _ 34 ?hg (N := 15) ?hd (xs := ([] : List Sl)) (inner := []) (ok := fun _ => True) (okp := fun _ => True) ?hr ?hp (fun _ hk => hk) trivial (Below.refl _ _) (Nat.le_refl _) (by simp) ?_; (case hd => rfl); (case hg => rfl); (case hr => first | (go_simp; done) | (go_simp; rfl)); (case hp => exact (Reps.none _ _)); intro vl_ wl_ ho_ hb_ hg_ hn_; clear hg_ hn_; have HS_ := A0_ (Sp.made' HS.out hb_ ho_); clear HS; have HS := HS_; clear HS_; clear ho_ hb_; obtain ⟨Ar, cr, ev_⟩ := Sp.slice HS.out (i := 0) rfl; subst ev_))
    | ((with_reducible refine gate_dst (N := 16) rfl ?_); go_loud (refine Kd.R_lit kC _ 69 ?hg (N := 16) ?hd (xs := ([] : List Cb)) (inner := []) (ok := fun _ => True) (okp := fun _ => True) ?hr ?hp (fun _ hk => hk) trivial (Below.refl _ _) (Nat.le_refl _) (by simp) ?_; (case hd => rfl); (case hg => rfl); (case hr => first | (go_simp; done) | (go_simp; rfl)); (case hp => exact (Reps.none _ _)); intro vl_ wl_ ho_ hb_ hg_ hn_; clear hg_ hn_; have HS_ := A0_ (Sp.made' HS.out hb_ ho_); clear HS; have HS := HS_; clear HS_; clear ho_ hb_; obtain ⟨Aa, ca, ev_⟩ := Sp.slice HS.out (i := 0) rfl; subst ev_)))
  have HS_ := A0_ (Sp.swap HS.out)
  clear HS
  have HS := HS_
  clear HS_
  go_loopg [7, 8, 9] (offs.length + 1) (fun kq v7 v8 v9 w' => ∃ (i : Nat) (Ar : Option Addr) (cr : Nat) (Aa : Option Addr) (ca : Nat) (M : List (Sl × List Cb)), v9 = .int .i64 (i : Int) ∧ v7 = .slice Ar M.length cr ∧ v8 = .slice Aa (M.map Prod.snd).flatten.length ca ∧ Aside0 (i ≤ offs.length ∧ kq + i = offs.length + 1 ∧ M.map Prod.snd = accR parts offs part i) ∧ Aside0 (Sp w ([Res.row kSl 34 w.heap.size (.slice Ar M.length cr) (M.map Prod.fst), Res.row kC 69 w.heap.size (.slice Aa (M.map Prod.snd).flatten.length ca) (M.map Prod.snd).flatten, Res.blk ga #[.slice Ap parts.length cp] 32] ++ rowsOf w.heap.size M) w'))
  case atStart => exact ⟨0, Ar, cr, Aa, ca, [], rfl, rfl, rfl, ⟨by omega, by omega, rfl⟩, HS⟩
  case round =>
    clear HS
    obtain ⟨i, Ar, cr, Aa, ca, M, rfl, rfl, rfl, HX, HS⟩ := hrel
    obtain ⟨k1, rfl⟩ : ∃ k1, gk = k1 + 1 := ⟨gk - 1, by have := HX.out; omega⟩
    by_cases ci : i < offs.length
    · have ci0 : decide (i < offs.length) = true := decide_eq_true ci
      have q0 : (0 ≤ (i : Int)) = True := eq_true (by omega)
      have q1 : ((i : Int) < (offs.length : Int)) = True := eq_true (by omega)
      have q2 : (i < offs.length) = True := eq_true ci
      have HW := A0_ (wrap_succ i (by have := HOL.out; have := HN.out.2; omega))
      by_cases hip : i = part
      · have e0 : (i = part) = True := eq_true hip
        have e1 : ((i : Int) = (part : Int)) = True := eq_true (by omega)
        have e2 : ((i : Int) == (part : Int)) = true := by rw [beq_iff_eq]; omega
        have e3 : ((i : Int) != (part : Int)) = false := by rw [bne_eq_false_iff_eq]; omega
        have HSK := A0_ (accR_skip parts offs part i hip)
        have HCI := A0_ ci
        clear hip ci
        go_wp2
        go_roundg k1
        case measure => omega
        case rel =>
          rw [HW.out]
          exact ⟨i + 1, Ar, cr, Aa, ca, M, rfl, rfl, rfl, ⟨by have := HCI.out; omega, by have := HX.out; omega, by rw [HSK.out]; exact HX.out.2.2⟩, HS⟩
      · have e0 : (i = part) = False := eq_false hip
        have e1 : ((i : Int) = (part : Int)) = False := eq_false (by omega)
        have e2 : ((i : Int) == (part : Int)) = false := by rw [beq_eq_false_iff_ne]; omega
        have e3 : ((i : Int) != (part : Int)) = true := by rw [bne_iff_ne]; omega
        have HSK := A0_ (accR_next parts offs part i hip)
        have HCI := A0_ ci
        have hml : M.length ≤ i := by
          have := congrArg List.length HX.out.2.2
          rw [List.length_map] at this
          rw [this]
          unfold accR
          rw [List.length_map]
          exact Nat.le_trans (List.length_filter_le _ _) (by rw [List.length_range]; exact Nat.le_refl _)
        have HMN := A0_ (show M.length ≤ 8 by have := HOL.out; have := HN.out.2; omega)
        obtain ⟨adp, Ai, ci_, e, hx0, hx1, hx2⟩ := at_L4 HC.out (i : Int) (by omega) (by have := HOL.out; omega)
        subst e
        rw [show rd_L4 parts (i : Int) = pAt parts i from rfl] at hx0 hx1 hx2
        rw [Int.toNat_natCast] at hx0
        obtain ⟨ado, e, hy0, hy1, hy2⟩ := at_T69 HO.out (i : Int) (by omega) (by omega)
        subst e
        rw [show rd_T69 offs (i : Int) = oAt offs i from rfl] at hy0 hy1 hy2
        rw [Int.toNat_natCast] at hy0 hy1 hy2
        have hpz := HSZ.out _ (pAt_mem parts i (by have := HOL.out; omega))
        obtain ⟨p, hp⟩ : ∃ p, p = pAt parts i := ⟨_, rfl⟩
        obtain ⟨o, ho⟩ : ∃ o, o = oAt offs i := ⟨_, rfl⟩
        rw [← hp, ← ho] at HSK
        rw [← hp] at hx0 hx1 hx2 hpz
        rw [← ho] at hy0 hy1 hy2
        obtain ⟨KM, hKM⟩ := (smove_ev p o (by omega)).rounds
        obtain ⟨m, hm⟩ : ∃ m, m = shiftP o p := ⟨_, rfl⟩
        rw [show (p.map fun c => addC c o) = m from hm.symm] at hKM
        rw [← hm] at HSK
        have HML := A0_ (show m.length ≤ 64 by rw [hm, shiftP_len]; exact hpz.2)
        have HP0 := A0_ hx0
        have HP1 := A0_ hx1
        have HP2 := A0_ hx2
        have HX0 := A0_ hy0
        have HX1 := A0_ hy1
        have HX2 := A0_ hy2
        have HKM := A0_ hKM
        obtain ⟨FL, hfl⟩ : ∃ FL, FL = (M.map Prod.snd).flatten := ⟨_, rfl⟩
        rw [← hfl] at HS ⊢
        have HFL := A0_ hfl
        have p1 : ((i : Int) < (parts.length : Int)) = True := eq_true (by have := HOL.out; omega)
        have p2 : (i < parts.length) = True := eq_true (by have := HOL.out; omega)
        clear hip ci hml hx0 hx1 hx2 hy0 hy1 hy2 hpz hp ho hKM hm hfl
        go_wp2
        have HS_ := A0_ (show Sp w ([Res.row kSl 34 w.heap.size (.slice Ar M.length cr) (M.map Prod.fst), Res.row kC 69 w.heap.size (.slice Aa FL.length ca) FL, Res.blk ga #[.slice (some adp) parts.length cp] 32] ++ rowsOf w.heap.size M) wr.drew from Sp.drew HS.out)
        clear HS
        have HS := HS_
        clear HS_
        refine start_ (n := 14) (S := fun w' => w'.cell? ⟨ga, 0, none⟩ = some (.slice (some adp) parts.length cp) ∧ w'.cell? (adp.add i) = some (.slice Ai p.length ci_) ∧ w'.cell? (ado.add (i * 3)) = some (.int .i64 o.f0) ∧ w'.cell? ⟨(ado.add (i * 3)).block, (ado.add (i * 3)).off + 1, none⟩ = some (.int .i64 o.f1) ∧ w'.cell? ⟨(ado.add (i * 3)).block, (ado.add (i * 3)).off + 2, none⟩ = some (.int .i64 o.f2)) (ds := []) #[false, false, false, false, false, false, false, false, false, false, false, false, false, false] (by kernel_rfl) rfl rfl (⟨(blk_cell (Sp.blk HS.out (i := 2) rfl).1 0).trans rfl, pw_cell_below HS.out.below HP0.out, pw_cell_below HS.out.below HX0.out, pw_cell_below HS.out.below HX1.out, pw_cell_below HS.out.below HX2.out⟩) (fun hHeld => ?_)
        refine with_tabW rstF.tab7 rstF.bits7 (fun HT_ HW_ => ?_)
        generalize wr.drew = wD at HS hHeld ⊢
        refine on_ 0 (some 26) ?_
        refine on_ 1 (some 27) ?_
        refine tk_ 2 (some 28) ?_
        refine on_ 3 (some 29) ?_
        refine on_ 4 (some 30) ?_
        refine tk_ 5 (some 31) ?_
        refine on_ 6 (some 32) ?_
        refine on_ 7 (some 33) ?_
        refine on_ 8 (some 34) ?_
        refine tk_ 9 (some 35) ?_
        refine o1_ 10 (some 36) (fun K hK => ?_)
        refine goes_ Try.func71 (by kernel_rfl) rfl #[.slice Ai p.length ci_, .agg #[.int .i64 o.f0, .int .i64 o.f1, .int .i64 o.f2]] (by rfl) rfl rfl (by (try simp only [List.map_toArray, List.map_cons, List.map_nil]); first | done | rfl | (simp only [List.length_drop, List.length_take]; rfl)) ?_
        refine (spec_l09Move.calls KM Ai ci_ p o.f0 o.f1 o.f2 m _ (Kd.C_below HP2.out HS.out.below) HP1.out HKM.out).mono ?_
        rintro e wA11 ⟨vA11, rfl, ho, hb⟩
        refine ⟨_, rfl, ?_⟩
        have HS_ := A0_ (Sp.made' HS.out hb ho)
        clear HS
        have HS := HS_
        clear HS_
        clear hb ho
        obtain ⟨AA11, cA11, rfl⟩ := Sp.slice HS.out (i := 0) rfl
        refine hK.out _ _ (⟨(blk_cell (Sp.blk HS.out (i := 3) rfl).1 0).trans rfl, pw_cell_below HS.out.below HP0.out, pw_cell_below HS.out.below HX0.out, pw_cell_below HS.out.below HX1.out, pw_cell_below HS.out.below HX2.out⟩) (fun hHeld => ?_)
        clear hK K
        refine nm_ (some 36) ?_
        refine o1_ 11 (some 37) (fun K hK => ?_)
        refine Kd.R_lit_step kSl _ 34 ?hg (N := 37) ?hd (xs := ([(AA11, (m).length, cA11)] : List Sl)) (inner := [.slice AA11 (m).length cA11]) (ok := fun _ => True) (okp := fun _ => True) ?hr ?hp (fun _ hk => hk) trivial (Below.refl _ _) (Nat.le_refl _) (by simp) ?_
        (case hd => rfl)
        (case hg => rfl)
        (case hr => first | (go_simp; done) | (go_simp; rfl))
        (case hp => exact (Reps.one rfl (Reps.none _ _)))
        intro vA12 wA12 ho hb hg_ hnew_
        clear hg_ hnew_
        have HS_ := A0_ (Sp.made' HS.out hb ho)
        clear HS
        have HS := HS_
        clear HS_
        clear hb ho
        obtain ⟨AA12, cA12, eA_⟩ := Sp.slice HS.out (i := 0) rfl
        subst eA_
        refine hK.out _ _ (⟨(blk_cell (Sp.blk HS.out (i := 4) rfl).1 0).trans rfl, pw_cell_below HS.out.below HP0.out, pw_cell_below HS.out.below HX0.out, pw_cell_below HS.out.below HX1.out, pw_cell_below HS.out.below HX2.out⟩) (fun hHeld => ?_)
        clear hK K
        refine nm_ (some 37) ?_
        refine o1_ 12 (some 38) (fun K hK => ?_)
        obtain ⟨fp_, ho_, hf_, hc_⟩ := Sp.row HS.out (i := 2) rfl
        refine Kd.R_append_rows_step kSl w.heap.size (by rfl) (.tmp 26) (.tmp 37) 28 34 (.slice none 0 0) 24 rfl Try.underlying28 info34 rfl (by decide) (by omega) _ (M.map Prod.fst) ([(AA11, (m).length, cA11)] : List Sl) _ _ _ _ (fun _ => False) rfl rfl ho_ (Sp.reads HS.out (i := 0) rfl).2.2 (fun _ _ h => h) (fun _ h => h.elim) (fun _ h => .inr h) HS.out.below HS.out.below.size ?aL ?_
        (case aL => have h1_ := HMN.out; simp only [List.length_cons, List.length_nil, List.length_map]; omega)
        intro vA13 wA13 ho hb hg hat
        have HS_ := A0_ (hc_ _ _ _ ho hg)
        clear HS
        have HS := HS_
        clear HS_
        clear ho hb hg hat ho_ hf_ hc_ fp_
        obtain ⟨AA13, cA13, eA_⟩ := Sp.slice HS.out (i := 2) rfl
        subst eA_
        refine hK.out _ _ (⟨(blk_cell (Sp.blk HS.out (i := 4) rfl).1 0).trans rfl, pw_cell_below HS.out.below HP0.out, pw_cell_below HS.out.below HX0.out, pw_cell_below HS.out.below HX1.out, pw_cell_below HS.out.below HX2.out⟩) (fun hHeld => ?_)
        clear hK K
        refine nm_ (some 38) ?_
        refine on_ 13 (some 7) ?_
        refine dn_ ?_
        have HS_ := A0_ (Sp.arr (pre := [Res.row kSl 34 w.heap.size (.slice AA12 (([(AA11, (m).length, cA11)] : List Sl)).length cA12) (([(AA11, (m).length, cA11)] : List Sl)), Res.row kC 69 w.heap.size (.slice AA11 (m).length cA11) (m), Res.row kSl 34 w.heap.size (.slice AA13 ((M.map Prod.fst) ++ ([(AA11, (m).length, cA11)] : List Sl)).length cA13) ((M.map Prod.fst) ++ ([(AA11, (m).length, cA11)] : List Sl)), Res.row kC 69 w.heap.size (.slice Aa FL.length ca) FL, Res.blk ga #[.slice (some adp) parts.length cp] 32]) (pre' := [Res.row kC 69 w.heap.size (.slice AA11 (m).length cA11) (m), Res.row kSl 34 w.heap.size (.slice AA13 ((M.map Prod.fst) ++ ([(AA11, (m).length, cA11)] : List Sl)).length cA13) ((M.map Prod.fst) ++ ([(AA11, (m).length, cA11)] : List Sl)), Res.row kC 69 w.heap.size (.slice Aa FL.length ca) FL, Res.blk ga #[.slice (some adp) parts.length cp] 32, Res.row kSl 34 w.heap.size (.slice AA12 (([(AA11, (m).length, cA11)] : List Sl)).length cA12) (([(AA11, (m).length, cA11)] : List Sl))]) (rest := rowsOf w.heap.size M) [1, 2, 3, 4, 0] HS.out rfl rfl)
        clear HS
        have HS := HS_
        clear HS_
        have hl_ : (M.map Prod.fst ++ [((AA11, m.length, cA11) : Sl)]).length = M.length + 1 := by rw [List.length_append, List.length_map]; rfl
        have HS_ := Sp.out HS.out 4
        rw [hl_] at HS_
        clear HS hl_
        have HS : Aside0 (Sp w ([Res.row kC 69 w.heap.size (.slice AA11 m.length cA11) m, Res.row kSl 34 w.heap.size (.slice AA13 (M.length + 1) cA13) (M.map Prod.fst ++ [((AA11, m.length, cA11) : Sl)]), Res.row kC 69 w.heap.size (.slice Aa FL.length ca) FL, Res.blk ga #[.slice (some adp) parts.length cp] 32] ++ rowsOf w.heap.size M) wA13) := A0_ HS_
        clear HS_
        obtain ⟨adr, e_⟩ := Sp.some_ HS.out (i := 1) rfl (Nat.succ_pos _)
        subst e_
        have hxl := Sp.slCell HS.out (i := 1) rfl M.length (Nat.lt_succ_self _)
        rw [show (M.map Prod.fst ++ [((AA11, m.length, cA11) : Sl)]).getD M.length (none, 0, 0) = (AA11, m.length, cA11) by rw [List.getD_eq_getElem?_getD, List.getElem?_append_right (by rw [List.length_map]; exact Nat.le_refl _), List.length_map, Nat.sub_self]; rfl] at hxl
        replace hxl : (wA13).cell? (adr.add M.length) = some (.slice AA11 m.length cA11) := hxl
        have w1 : wrap64 ((M.length : Int) + 1 - 1) = (M.length : Int) := by have := HMN.out; unfold wrap64; omega
        have w2 : wrap64 (M.length : Int) = (M.length : Int) := by have := HMN.out; unfold wrap64; omega
        have w3 : (0 ≤ (M.length : Int)) = True := eq_true (by omega)
        have w4 : ((M.length : Int) < (M.length : Int) + 1) = True := eq_true (by omega)
        have w5 : (M.length < M.length + 1) = True := eq_true (by omega)
        have HFB := A0_ (show FL.length ≤ 1000 by rw [HFL.out, HX.out.2.2]; have h1_ := accR_flat parts offs part (fun p hp => (HSZ.out p hp).2) i (by have := HCI.out; have := HOL.out; omega); have h2_ := HCI.out; have h3_ := HOL.out; have h4_ := HN.out.2; omega)
        go_wp2_with (first
          | ((with_reducible refine gate_builtin (b := .append) (xs := #[.tmp 39, .tmp 45]) rfl ?_); go_loud (at_builtin; obtain ⟨fp_, ho_, hf_, hc_⟩ := Sp.row HS.out (i := 2) rfl; refine Kd.R_append_rows kC (w0 := w) w.heap.size rfl (.tmp 39) (.tmp 45) 34 69 ((.agg #[(.int .i64 0), (.int .i64 0), (.int .i64 0)])) 24 rfl Try.underlying34 info69 rfl (by decide) (by omega) (.slice Aa FL.length ca) (FL) (m) _ _ _ _ (fun _ => False) rfl rfl ho_ ((Sp.reads HS.out (i := 0) rfl).2.2) (fun _ _ h => h) (fun _ h => h.elim) (fun _ h => Or.inr h) HS.out.below HS.out.below.size ?aL ?_; (case aL => have h1_ := HFB.out; have h2_ := HML.out; omega); intro va_ wa_ ho hb hg hat; have HS_ := A0_ (hc_ _ _ _ ho hg); clear HS; have HS := HS_; clear HS_; clear ho hb hg hat hc_ hf_ ho_ fp_; obtain ⟨A2, c2_, ev_⟩ := Sp.slice HS.out (i := 2) rfl; subst ev_; clear hxl)))
        go_roundg k1
        case measure => omega
        case rel =>
          rw [HW.out]
          have hs1 : Sp w ([Res.row kSl 34 w.heap.size (.slice (some adr) (M.length + 1) cA13) (M.map Prod.fst ++ [((AA11, m.length, cA11) : Sl)]), Res.row kC 69 w.heap.size (.slice A2 (FL ++ m).length c2_) (FL ++ m), Res.blk ga #[.slice (some adp) parts.length cp] 32] ++ (rowsOf w.heap.size M ++ [Res.row kC 69 w.heap.size (.slice AA11 m.length cA11) m])) _ := Sp.toEnd HS.out
          have e1 : M.map Prod.fst ++ [((AA11, m.length, cA11) : Sl)] = (M ++ [((AA11, m.length, cA11), m)]).map Prod.fst := by rw [List.map_append]; rfl
          have e2 : FL ++ m = ((M ++ [(((AA11, m.length, cA11) : Sl), m)]).map Prod.snd).flatten := by rw [List.map_append, List.flatten_append, HFL.out]; simp
          have e3 : M.length + 1 = (M ++ [(((AA11, m.length, cA11) : Sl), m)]).length := by rw [List.length_append]; rfl
          rw [show rowsOf w.heap.size M ++ [Res.row kC 69 w.heap.size (.slice AA11 m.length cA11) m] = rowsOf w.heap.size (M ++ [((AA11, m.length, cA11), m)]) from (rowsOf_add w.heap.size M ((AA11, m.length, cA11), m)).symm, e1, e2, e3] at hs1
          exact ⟨i + 1, some adr, cA13, A2, c2_, M ++ [((AA11, m.length, cA11), m)], rfl, by rw [← e3], by rw [← e2, List.length_append], ⟨by have := HCI.out; omega, by have := HX.out; omega, by rw [HSK.out, List.map_append, HX.out.2.2]; rfl⟩, ⟨hs1⟩⟩
    · have ci0 : decide (i < offs.length) = false := decide_eq_false ci
      have q1 : ((i : Int) < (offs.length : Int)) = False := eq_false (by omega)
      have q2 : (i < offs.length) = False := eq_false ci
      have hi : i = parts.length := by have := HX.out; have := HOL.out; omega
      have hms := HX.out.2.2
      rw [hi] at hms
      obtain ⟨rows, hrw⟩ : ∃ rows, rows = accR parts offs part parts.length := ⟨_, rfl⟩
      have hfl0 := accR_flat parts offs part (fun p hp => (HSZ.out p hp).2) parts.length (Nat.le_refl _)
      rw [← hrw] at HRO HRE hms hfl0
      have hml : M.length = rows.length := by rw [← hms, List.length_map]
      rw [hms, hml] at HS ⊢
      have HMS := A0_ hms
      have HFB := A0_ (show rows.flatten.length ≤ 1000 by have := HN.out.2; omega)
      have HFP := A0_ (flat_pos HRO.out)
      have HLS := A0_ (least_same rows HRO.out)
      obtain ⟨FL, hFL⟩ : ∃ FL, FL = rows.flatten := ⟨_, rfl⟩
      rw [← hFL] at HS HFB HFP HLS ⊢
      have HS_ := A0_ (Sp.out HS.out 2)
      clear HS
      have HS : Aside0 (Sp w ([Res.row kSl 34 w.heap.size (.slice Ar rows.length cr) (M.map Prod.fst), Res.row kC 69 w.heap.size (.slice Aa FL.length ca) FL] ++ rowsOf w.heap.size M) wr) := HS_
      clear HS_
      obtain ⟨adr, e_⟩ := Sp.some_ HS.out (i := 0) rfl HRO.out.1
      subst e_
      obtain ⟨ada, e_⟩ := Sp.some_ HS.out (i := 1) rfl HFP.out
      subst e_
      obtain ⟨hx0, hx1, hx2⟩ := Sp.cubeCell0 HS.out (i := 1) rfl HFP.out
      obtain ⟨a0, ha0⟩ : ∃ a0, a0 = cAt FL 0 := ⟨_, rfl⟩
      rw [← ha0] at hx0 hx1 hx2 HLS
      have p0 : (0 < FL.length) = True := eq_true HFP.out
      have p1 : ((0 : Int) < (FL.length : Int)) = True := eq_true (by have := HFP.out; omega)
      clear hi ci hms hrw hfl0 hml hFL ha0 HX HC HCP HO HCO HOL HN HSZ HPT
      go_wp2
      go_quiet (fail)
      have HS_ := A0_ (Sp.drewN HS.out nq)
      clear HS hx0 hx1 hx2
      have HS := HS_
      clear HS_
      go_wp2
      go_loopg [10, 11, 12, 13] (FL.length + 1) (fun kq v10 v11 v12 v13 w' => ∃ (i : Nat) (r : Cb), v13 = .int .i64 (i : Int) ∧ v10 = .int .i64 r.f0 ∧ v11 = .int .i64 r.f1 ∧ v12 = .int .i64 r.f2 ∧ Aside0 (1 ≤ i ∧ i ≤ FL.length ∧ kq + i = FL.length + 2 ∧ r = ((FL.take i).drop 1).foldl minC a0) ∧ Aside0 (Sp w ([Res.row kSl 34 w.heap.size (.slice (some adr) rows.length cr) (M.map Prod.fst), Res.row kC 69 w.heap.size (.slice (some ada) FL.length ca) FL] ++ rowsOf w.heap.size M) w'))
      case atStart => exact ⟨1, a0, rfl, rfl, rfl, rfl, ⟨by omega, by have := HFP.out; omega, by omega, by rw [List.drop_eq_nil_of_le (by rw [List.length_take]; omega)]; rfl⟩, HS⟩
      case round =>
        clear HS p0 p1
        obtain ⟨i, r, rfl, rfl, rfl, rfl, HX, HS⟩ := hrel
        obtain ⟨k1, rfl⟩ : ∃ k1, gk = k1 + 1 := ⟨gk - 1, by have := HX.out; omega⟩
        by_cases ci : i < FL.length
        · have ci0 : decide (i < FL.length) = true := decide_eq_true ci
          have q0 : (0 ≤ (i : Int)) = True := eq_true (by omega)
          have q1 : ((i : Int) < (FL.length : Int)) = True := eq_true (by omega)
          have q2 : (i < FL.length) = True := eq_true ci
          have HW := A0_ (wrap_succ i (by have := HFB.out; omega))
          obtain ⟨hx0, hx1, hx2⟩ := Sp.cubeCell HS.out (i := 1) rfl i ci
          have HNX := A0_ (show ((FL.take (i + 1)).drop 1).foldl minC a0 = minC r (cAt FL i) by
            rw [List.take_succ_eq_append_getElem ci, List.drop_append_of_le_length (by rw [List.length_take]; have := HX.out.1; omega), List.foldl_append, ← HX.out.2.2.2, show cAt FL i = FL[i] from getD_at FL _ i ci]
            rfl)
          have HCI := A0_ ci
          obtain ⟨c, hc⟩ : ∃ c, c = cAt FL i := ⟨_, rfl⟩
          rw [← hc] at hx0 hx1 hx2 HNX
          clear ci hc
          go_wp2
          all_goals
            go_roundg k1
            case measure => omega
            case rel =>
              rw [HW.out]
              refine ⟨i + 1, minC r c, rfl, ?_, ?_, ?_, ⟨by omega, by have := HCI.out; omega, by have := HX.out; omega, HNX.out.symm⟩, HS⟩
              all_goals
                unfold minC
                simp only [*]
                first | rfl | (simp only [if_true, if_false]; done) | (congr 1; split <;> omega)
        · have ci0 : decide (i < FL.length) = false := decide_eq_false ci
          have q1 : ((i : Int) < (FL.length : Int)) = False := eq_false (by omega)
          have q2 : (i < FL.length) = False := eq_false ci
          have hi : i = FL.length := by have := HX.out; omega
          have HQL := A0_ (show r = leastP rows by rw [HX.out.2.2.2, hi, List.take_length]; exact HLS.out.symm)
          clear ci hi HX
          go_wp2
          clear ci0 q1 q2
          have HMO := A0_ (rowsOk_mapK HRO.out r)
          have HML := A0_ (show M.length = rows.length by rw [← HMS.out, List.length_map])
          go_loopg [14] (rows.length + 1) (fun kq v14 w' => ∃ (i : Nat) (M2 : List (Sl × List Cb)), v14 = .int .i64 (i : Int) ∧ Aside0 (i ≤ rows.length ∧ kq + i = rows.length + 1 ∧ M2.map Prod.snd = mapK (downP r) rows i) ∧ Aside0 (Sp w ([Res.row kSl 34 w.heap.size (.slice (some adr) rows.length cr) (M2.map Prod.fst), Res.row kC 69 w.heap.size (.slice (some ada) FL.length ca) FL] ++ rowsOf w.heap.size M2) w'))
          case atStart => exact ⟨0, M, rfl, ⟨by omega, by omega, by rw [HMS.out]; rfl⟩, HS⟩
          case round =>
            clear HS
            obtain ⟨i, M2, rfl, HX, HS⟩ := hrel
            obtain ⟨k1, rfl⟩ : ∃ k1, gk = k1 + 1 := ⟨gk - 1, by have := HX.out; omega⟩
            by_cases ci : i < rows.length
            · have ci0 : decide (i < rows.length) = true := decide_eq_true ci
              have q0 : (0 ≤ (i : Int)) = True := eq_true (by omega)
              have q1 : ((i : Int) < (rows.length : Int)) = True := eq_true (by omega)
              have q2 : (i < rows.length) = True := eq_true ci
              have HW := A0_ (wrap_succ i (by have := HRO.out.2.1; omega))
              have hm2 : M2.length = rows.length := by have := congrArg List.length HX.out.2.2; rwa [List.length_map, mapK_len] at this
              have hh := Sp.slCell HS.out (i := 0) rfl i ci
              obtain ⟨adi, cc, p, hm, hp, hsp⟩ := rows_at2 HS.out (HX.out.2.2.symm ▸ HMO.out i) i (by rw [hm2]; exact ci)
              rw [map_getD Prod.fst M2 i _ _ hm] at hh
              replace hh : wr.cell? (adr.add i) = some (.slice (some adi) p.length cc) := hh
              have hpr : rows[i] = p := by
                have h1 := mapK_at (downP r) rows i ci
                rw [← HX.out.2.2, List.getElem?_map, hm] at h1
                exact (Option.some.inj h1).symm
              obtain ⟨KM, hKM⟩ := (smove_ev p ⟨wrap64 (-r.f0), wrap64 (-r.f1), wrap64 (-r.f2)⟩ (by omega)).rounds
              obtain ⟨m, hmd⟩ : ∃ m, m = downP r p := ⟨_, rfl⟩
              rw [show (p.map fun c => addC c ⟨wrap64 (-r.f0), wrap64 (-r.f1), wrap64 (-r.f2)⟩) = m by rw [hmd]; unfold downP; exact List.map_congr_left (fun c _ => neg_add c r)] at hKM
              have HKM := A0_ hKM
              have HMI := A0_ hm
              have HSS := A0_ (show (M2.map Prod.snd).set i m = mapK (downP r) rows (i + 1) by rw [HX.out.2.2, hmd, ← hpr]; exact mapK_set (downP r) rows i ci)
              have HCI := A0_ (show i < M2.length by rw [hm2]; exact ci)
              have HCR := A0_ ci
              obtain ⟨RS, hRS⟩ : ∃ RS, RS = (rowsOf w.heap.size M2).eraseIdx i := ⟨_, rfl⟩
              rw [← hRS] at hsp
              have HRS := A0_ hRS
              clear HS
              have HS := A0_ hsp
              clear ci hm hp hRS hsp hpr hm2 hKM hmd
              go_wp2_with (first
                | (go_at_call 71; go_loud (refine (spec_l09Move.calls KM (some adi) cc p (wrap64 (-r.f0)) (wrap64 (-r.f1)) (wrap64 (-r.f2)) m _ (Sp.reads HS.out (i := 0) rfl).2.2 (Sp.reads HS.out (i := 0) rfl).2.1 HKM.out).mono ?_; rintro e wm_ ⟨vm_, rfl, ho_, hb_⟩; have HS_ := A0_ (Sp.out (Sp.made' HS.out hb_ ho_) 1); clear HS hb_ ho_ hh; have HS : Aside0 (Sp w ([Res.row kC 69 w.heap.size vm_ m, Res.row kSl 34 w.heap.size (.slice (some adr) rows.length cr) (M2.map Prod.fst), Res.row kC 69 w.heap.size (.slice (some ada) FL.length ca) FL] ++ RS) wm_) := HS_; clear HS_; obtain ⟨Am, cm, e_⟩ := Sp.slice HS.out (i := 0) rfl; subst e_))
                | ((with_reducible refine gate_store (t := 34) (p := 106) rfl ?_); go_loud (obtain ⟨w1_, hr_, hs_⟩ := Sp.slStore HS.out (i := 1) rfl i HCR.out (Am, m.length, cm); refine store_event rfl rfl rfl (exec_store (v := .pointer (some (adr.add i))) (u := .slice Am m.length cm) rfl ?hp ?hx hr_) ?_; (case hp => first | rfl | (go_simp; done) | (go_simp; rfl)); (case hx => first | rfl | (go_simp; done) | (go_simp; rfl)); intro ws_ hw_; rw [← hw_] at hs_; clear hr_ hw_ HS; have HS := A0_ hs_; clear hs_)))
              go_roundg k1
              case measure => omega
              case rel =>
                rw [HW.out]
                have hb : Sp w ([Res.row kC 69 w.heap.size (slV (Am, m.length, cm)) m, Res.row kSl 34 w.heap.size (.slice (some adr) rows.length cr) ((M2.map Prod.fst).set i (Am, m.length, cm)), Res.row kC 69 w.heap.size (.slice (some ada) FL.length ca) FL] ++ RS) _ := HS.out
                rw [HRS.out] at hb
                have hb2 := Sp.backRow HCI.out hb
                have e1 : (M2.map Prod.fst).set i (Am, m.length, cm) = (M2.set i ((Am, m.length, cm), m)).map Prod.fst := by rw [List.map_set]
                rw [e1] at hb2
                exact ⟨i + 1, M2.set i ((Am, m.length, cm), m), rfl, ⟨by have := HCR.out; omega, by have := HX.out; omega, by rw [List.map_set]; exact HSS.out⟩, ⟨hb2⟩⟩
            · have ci0 : decide (i < rows.length) = false := decide_eq_false ci
              have q1 : ((i : Int) < (rows.length : Int)) = False := eq_false (by omega)
              have q2 : (i < rows.length) = False := eq_false ci
              have hi : i = rows.length := by have := HX.out; omega
              have HEN := A0_ (show M2.map Prod.snd = backP rows by rw [HX.out.2.2, hi, mapK_all, HQL.out]; rfl)
              clear ci hi
              go_wp2
              go_ret
              rw [HRE.out, ← HEN.out]
              have h1 := Sp.out HS.out 1
              refine ⟨_, rfl, Sp.joinRows (rs := []) ?_, HS.out.below⟩
              rw [List.append_nil]
              exact h1
end Go.Proofs.Ytlbckkagjekhnaa.A

namespace Go.Proofs.Ytlbckkagjekhnaa.A
open Go.RowKit Go.Proofs.YtlbckkagjekhnaaW.PrintWords Go.Proofs.YtlbckkagjekhnaaW.PrintLast Go.Proofs.YtlbckkagjekhnaaW.PrintMore
attribute [local go_sem] max2_int min2_int max_two min_two max_three min_three max_four min_four   -- for this text's walks alone
set_option linter.unusedVariables false
set_option linter.unusedSimpArgs false
def spec_l27Code.f (k : Nat) (l0_0 : List (List (S69))) (l1 : List (S69)) : Option (Int) := (spec_IsAssembly.f k l0_0).bind fun t180 => (if t180 = true then ((spec_l27Clear.f k l0_0 l1).bind fun t181 => (if t181 = true then (some 0) else (some 2))) else (some 1))
set_option maxHeartbeats 8000000 in
set_option maxRecDepth 100000 in
theorem spec_l27Code.calls (k : Nat) (A0_0 : Option Addr) (c0_0 : Nat) (l0_0 : List (List (S69))) (A1 : Option Addr) (c1 : Nat) (l1 : List (S69)) (r : Int) (w : World) (hr0_0 : Kd.C (Kd.slice 69 k69) w A0_0 l0_0.length l0_0) (hc0_0 : l0_0.length ≤ c0_0) (hr1 : Kd.C k69 w A1 l1.length l1) (hc1 : l1.length ≤ c1) (h : spec_l27Code.f k l0_0 l1 = some r) :
    Calls Try.prog 44 #[.agg #[.slice A0_0 l0_0.length c0_0], .slice A1 l1.length c1] w fun e w' => e = .returned (.int .i64 r) ∧ Below w.heap.size w w' := by
 (have hu32 := Try.underlying32); (have HR0_0 := A0_ hr0_0); (have HC0_0 := A0_ hc0_0); clear hr0_0 hc0_0; (have HR1 := A0_ hr1); (have HC1 := A0_ hc1); clear hr1 hc1; (have HB := A0_ (Below.refl w.heap.size w))
 have H : ((spec_IsAssembly.f k l0_0).bind fun t180 => (if t180 = true then ((spec_l27Clear.f k l0_0 l1).bind fun t181 => (if t181 = true then (some 0) else (some 2))) else (some 1))) = some r := h
 clear h; (replace H := Option.bind_eq_some_iff.mp H); (obtain ⟨t180, A30, H⟩ := H); (try dsimp only at H); (have A3 := A0_ A30); clear A30; (have H0_ := A0_ H); clear H; (go_enter Try.func44, Try.ntmps44); (go_wp2_with (first | ((with_reducible refine gate_dst (N := 2) rfl ?_); refine box_event ?hg (N := 2) ?hd (cs := #[.slice A0_0 l0_0.length c0_0]) (t := 32) ?hr ?_; (case hd => rfl); (case hg => rfl); (case hr => first | (go_simp; done) | (go_simp; rfl)); intro gb179 hg w4 hbox hb; have n0_ := A0_ (below_step (by repeat (first | (with_reducible first | exact HB.out | apply ba_ | apply bn_ | apply bd_) | exact HB.out)) hb); have n1_ := A0_ (hbox); have n2_ := A0_ ((by rw [hg]; exact (below_size (by repeat (first | (with_reducible first | exact HB.out | apply ba_ | apply bn_ | apply bd_) | exact HB.out))) : w.heap.size ≤ gb179)); have n3_ := A0_ ((by rw [hg]; exact (below_size (by repeat (first | (with_reducible first | exact HB.out | apply ba_ | apply bn_ | apply bd_) | exact HB.out))) : w.heap.size ≤ gb179)); clear HB; have HB := n0_; have BK179 := n1_; have GW179 := n2_; have GE179 := n3_; clear n0_ n1_ n2_ n3_; clear hb hbox hg; have hcz5_0 : w4.cell? ⟨gb179, 0, none⟩ = some (.slice A0_0 l0_0.length c0_0) := (blk_cell BK179.out 0).trans rfl; have hfz5_0 := blk_frozen BK179.out 0) | ((with_reducible refine gate_callee (f := 54) rfl ?_); refine goesL_ (some 6) rfl rfl Try.func54 (by kernel_rfl) rfl #[.agg #[.slice A0_0 l0_0.length c0_0]] rfl (by (try simp only [List.map_toArray, List.map_cons, List.map_nil]); first | done | rfl | (simp only [List.length_drop, List.length_take]; rfl)) ?_; (with_reducible refine (spec_IsAssembly.calls k _ _ l0_0 t180 _ ?side1 ?side2 A3.out).mono ?_); (case side1 => repeat (first | exact (Kd.C_below HR0_0.out HB.out) | (with_reducible refine Kd.C_alloc ?_ _) | (with_reducible refine Kd.C_drewN ?_ _) | (with_reducible refine Kd.C_drew ?_))); (case side2 => exact HC0_0.out); rintro e w6 ⟨rfl, hb⟩; refine ⟨_, rfl, ?_⟩; have n0_ := A0_ (blk_below (g := gb179) (o := .cells #[.slice A0_0 l0_0.length c0_0] 32 (0, 0)) (by (with_reducible repeat (first | apply gn_ | apply gd_ | apply ga_)); exact BK179.out) hb); have n1_ := A0_ (below_step (by repeat (first | (with_reducible first | exact HB.out | apply ba_ | apply bn_ | apply bd_ | refine below_set ?_ GE179.out) | exact HB.out)) hb); clear BK179; clear HB; have BK179 := n0_; have HB := n1_; clear n0_ n1_; (try clear hb); (try clear hb2); (try clear hk); (try clear hi); refine Stop0.out ?_))); (refine Stop0.mk ?_); (have H := H0_.out); clear H0_; (by_cases c7 : t180 = true)
 ·subst c7; (have H1 := H); (rw [if_pos rfl] at H1); clear H; (have H := H1); clear H1; (replace H := Option.bind_eq_some_iff.mp H); (obtain ⟨t181, A80, H⟩ := H); (try dsimp only at H); (have A8 := A0_ A80); clear A80; (have H0_ := A0_ H); clear H; (have hcz9_0 : w6.cell? ⟨gb179, 0, none⟩ = some (.slice A0_0 l0_0.length c0_0) := (blk_cell BK179.out 0).trans rfl); (have hfz9_0 := blk_frozen BK179.out 0); (go_wp2_with (first | ((with_reducible refine gate_callee (f := 70) rfl ?_); refine goesL_ (some 10) rfl rfl Try.func70 (by kernel_rfl) rfl #[.agg #[.slice A0_0 l0_0.length c0_0], .slice A1 l1.length c1] rfl (by (try simp only [List.map_toArray, List.map_cons, List.map_nil]); first | done | rfl | (simp only [List.length_drop, List.length_take]; rfl)) ?_; (with_reducible refine (spec_l27Clear.calls k _ _ l0_0 _ _ l1 t181 _ ?side1 ?side2 ?side3 ?side4 A8.out).mono ?_); (case side1 => repeat (first | exact (Kd.C_below HR0_0.out HB.out) | (with_reducible refine Kd.C_alloc ?_ _) | (with_reducible refine Kd.C_drewN ?_ _) | (with_reducible refine Kd.C_drew ?_))); (case side2 => exact HC0_0.out); (case side3 => repeat (first | exact (Kd.C_below HR1.out HB.out) | (with_reducible refine Kd.C_alloc ?_ _) | (with_reducible refine Kd.C_drewN ?_ _) | (with_reducible refine Kd.C_drew ?_))); (case side4 => exact HC1.out); rintro e w10 ⟨rfl, hb⟩; refine ⟨_, rfl, ?_⟩; have n0_ := A0_ (blk_below (g := gb179) (o := .cells #[.slice A0_0 l0_0.length c0_0] 32 (0, 0)) (by (with_reducible repeat (first | apply gn_ | apply gd_ | apply ga_)); exact BK179.out) hb); have n1_ := A0_ (below_step (by repeat (first | (with_reducible first | exact HB.out | apply ba_ | apply bn_ | apply bd_ | refine below_set ?_ GE179.out) | exact HB.out)) hb); clear BK179; clear HB; have BK179 := n0_; have HB := n1_; clear n0_ n1_; (try clear hb); (try clear hb2); (try clear hk); (try clear hi); refine Stop0.out ?_))); (refine Stop0.mk ?_); (have H := H0_.out); clear H0_; (by_cases c11 : t181 = true)
  ·subst c11; (have H1 := H); (rw [if_pos rfl] at H1); clear H; (have H := H1); clear H1; (obtain rfl := Option.some.inj H); go_wp2; go_ret; (exact ⟨by first | rfl | (simp [errW_none, errW_some] <;> rfl) | (simp [*, errW_none, errW_some] <;> rfl), by repeat (first | (with_reducible first | exact HB.out | apply ba_ | apply bn_ | apply bd_ | refine below_set ?_ GE179.out) | exact HB.out)⟩)
  ·(replace c11 := Bool.eq_false_iff.mpr c11); subst c11; (have H1 : (some 2) = some r := by rw [if_neg (show ¬ (false = true) by decide)] at H; exact H); clear H; (have H := H1); clear H1; (obtain rfl := Option.some.inj H); go_wp2; go_ret; (exact ⟨by first | rfl | (simp [errW_none, errW_some] <;> rfl) | (simp [*, errW_none, errW_some] <;> rfl), by repeat (first | (with_reducible first | exact HB.out | apply ba_ | apply bn_ | apply bd_ | refine below_set ?_ GE179.out) | exact HB.out)⟩)
 ·(replace c7 := Bool.eq_false_iff.mpr c7); subst c7; (have H1 : (some 1) = some r := by rw [if_neg (show ¬ (false = true) by decide)] at H; exact H); clear H; (have H := H1); clear H1; (obtain rfl := Option.some.inj H); go_wp2; go_ret; (exact ⟨by first | rfl | (simp [errW_none, errW_some] <;> rfl) | (simp [*, errW_none, errW_some] <;> rfl), by repeat (first | (with_reducible first | exact HB.out | apply ba_ | apply bn_ | apply bd_ | refine below_set ?_ GE179.out) | exact HB.out)⟩)
end Go.Proofs.Ytlbckkagjekhnaa.A

/- spec.RestOf, walked. -/
namespace Go.Proofs.Ytlbckkagjekhnaa.A
open Go.RowKit Go.Proofs.YtlbckkagjekhnaaW.PrintWords Go.Proofs.YtlbckkagjekhnaaW.PrintLast Go.Proofs.YtlbckkagjekhnaaW.PrintMore
set_option linter.unusedVariables false
set_option linter.unusedSimpArgs false
theorem code_ev {parts : List (List Cb)} (hz : SzOk parts) (offs : List Cb) : spec_l27Code.f 0 parts offs = some (codeP parts offs) := by
  unfold spec_l27Code.f
  have h1 : spec_IsAssembly.f 0 parts = some (asmP parts) := by unfold spec_IsAssembly.f; rw [if_pos ⟨hz.len, hz.each⟩, asm_same]
  rw [h1, Option.bind_some]
  unfold codeP
  by_cases a : asmP parts = true
  · rw [if_pos a, if_pos a]
    have h2 : spec_l27Clear.f 0 parts offs = some (areOffP parts offs) := by
      unfold spec_l27Clear.f
      have := (asm_of a).1
      rw [if_pos ⟨by omega, hz.each, fun p hp => ((asm_of a).2 p hp).2⟩]
    rw [h2, Option.bind_some]
    split <;> rfl
  · rw [if_neg a, if_neg a]
set_option maxHeartbeats 4000000 in
set_option maxRecDepth 100000 in
theorem sRest_calls (Ap : Option Addr) (cp : Nat) (parts : List (List Cb)) (Ao : Option Addr) (co : Nat) (offs : List Cb) (part : Int) (w : World) (hC : kP.C w Ap parts.length parts) (hcp : parts.length ≤ cp) (hz : SzOk parts) (hO : kC.C w Ao offs.length offs) (hco : offs.length ≤ co) :
    Calls Try.prog 12 #[.agg #[.slice Ap parts.length cp], .slice Ao offs.length co, .int .i64 part] w fun e w' => ∃ v_ : Value, e = .returned (.tuple #[v_, .int .i64 (restR parts offs part).2]) ∧ Kd.S kC2 34 w' w.heap.size (fun _ => True) v_ (restR parts offs part).1 ∧ Below w.heap.size w w' := by
  have hu32 := Try.underlying32
  have HS := A0_ (Sp.start w)
  have HRD := A0_ (fun w' (hb : Below w.heap.size w w') => spec_l27Code.calls 0 Ap cp parts Ao co offs (codeP parts offs) w' (Kd.C_below hC hb) hcp (Kd.C_below hO hb) hco (code_ev hz offs))
  have hre : restR parts offs part = if codeP parts offs = 0 then (if 0 ≤ part ∧ part < parts.length then (restP parts offs part.toNat, 0) else ([], 4)) else ([], codeP parts offs) := rfl
  have hc0 := fun h => code_0 (parts := parts) (offs := offs) h
  obtain ⟨R, hR⟩ : ∃ R, R = restR parts offs part := ⟨_, rfl⟩
  obtain ⟨cd, hcd⟩ : ∃ cd, cd = codeP parts offs := ⟨_, rfl⟩
  rw [← hR, ← hcd] at hre
  rw [← hcd] at HRD hc0
  rw [← hR]
  clear hR hcd
  by_cases c : cd = 0
  · subst c
    obtain ⟨has, hlen⟩ := hc0 rfl
    rw [if_pos rfl] at hre
    by_cases d : 0 ≤ part ∧ part < parts.length
    · rw [if_pos d] at hre
      have HRE := A0_ hre
      have HRS := A0_ (fun w' (hb : Below w.heap.size w w') => sl28Rest_calls Ap cp parts Ao co offs part.toNat w' (Kd.C_below hC hb) hcp (Kd.C_below hO hb) hco hlen (asm_rows has).1 (asm_rows has).2 (by omega))
      rw [Int.toNat_of_nonneg d.1] at HRS
      have HWI := A0_ (show spec_l01In.f part 0 ((parts.length : Int) - 1) = some true by rw [in_eq]; unfold inR; rw [decide_eq_true d.1, decide_eq_true (show part ≤ (parts.length : Int) - 1 by omega)]; rfl)
      have HWS := A0_ (show wrap64 ((parts.length : Int) - 1) = (parts.length : Int) - 1 by have := (asm_rows has).1.2; unfold wrap64; omega)
      clear hc0 has hlen hre d hC hcp hO hco hz
      go_enter Try.func12, Try.ntmps12
      go_wp2_with (first
        | ((with_reducible refine gate_dst (N := 3) rfl ?_); go_loud (refine box_event ?hg (N := 3) ?hd (cs := #[.slice Ap parts.length cp]) (t := 32) ?hr ?_; (case hd => rfl); (case hg => rfl); (case hr => first | (go_simp; done) | (go_simp; rfl)); intro ga hgb_ wb_ hcb_ hbb_; have HS_ := A0_ (Sp.boxed HS.out hgb_ hcb_ hbb_); clear HS; have HS := HS_; clear HS_; clear hgb_ hcb_ hbb_; have ha0 := (blk_cell (Sp.blk HS.out (i := 0) rfl).1 0).trans rfl))
        | (go_at_call 44; go_loud (refine (HRD.out _ HS.out.below).mono ?_; rintro e wi_ ⟨rfl, hs_⟩; have HS_ := A0_ (Sp.far HS.out hs_); clear HS; have HS := HS_; clear HS_; clear hs_ ha0; have ha0 := (blk_cell (Sp.blk HS.out (i := 0) rfl).1 0).trans rfl))
        | (go_at_call 45; go_loud (rw [HWS.out]; refine (spec_l01In.calls part 0 ((parts.length : Int) - 1) true _ HWI.out).mono ?_; rintro e ww_ ⟨rfl, hs_⟩; have HS_ := A0_ (Sp.far HS.out hs_.below); clear HS; have HS := HS_; clear HS_; clear hs_ ha0; have ha0 := (blk_cell (Sp.blk HS.out (i := 0) rfl).1 0).trans rfl))
        | (go_at_call 46; go_loud (refine (HRS.out _ HS.out.below).mono ?_; rintro e wr_ ⟨vr_, rfl, hs_, hb_⟩; have HKS := A0_ (Kd.S_lower hs_ HS.out.below.size); have HS_ := A0_ (Sp.far HS.out hb_); clear HS; have HS := HS_; clear HS_; clear hb_ hs_ ha0)))
      go_ret2
      rw [HRE.out]
      exact ⟨_, rfl, HKS.out, HS.out.below⟩
    · rw [if_neg d] at hre
      have HRE := A0_ hre
      have HWI := A0_ (show spec_l01In.f part 0 ((parts.length : Int) - 1) = some false by
        rw [in_eq]; unfold inR; rw [Option.some.injEq, Bool.and_eq_false_iff, decide_eq_false_iff_not, decide_eq_false_iff_not]; omega)
      have HWS := A0_ (show wrap64 ((parts.length : Int) - 1) = (parts.length : Int) - 1 by have := (asm_rows has).1.2; unfold wrap64; omega)
      clear hc0 has hlen hre d hC hcp hO hco hz
      go_enter Try.func12, Try.ntmps12
      go_wp2_with (first
        | ((with_reducible refine gate_dst (N := 3) rfl ?_); go_loud (refine box_event ?hg (N := 3) ?hd (cs := #[.slice Ap parts.length cp]) (t := 32) ?hr ?_; (case hd => rfl); (case hg => rfl); (case hr => first | (go_simp; done) | (go_simp; rfl)); intro ga hgb_ wb_ hcb_ hbb_; have HS_ := A0_ (Sp.boxed HS.out hgb_ hcb_ hbb_); clear HS; have HS := HS_; clear HS_; clear hgb_ hcb_ hbb_; have ha0 := (blk_cell (Sp.blk HS.out (i := 0) rfl).1 0).trans rfl))
        | (go_at_call 44; go_loud (refine (HRD.out _ HS.out.below).mono ?_; rintro e wi_ ⟨rfl, hs_⟩; have HS_ := A0_ (Sp.far HS.out hs_); clear HS; have HS := HS_; clear HS_; clear hs_ ha0; have ha0 := (blk_cell (Sp.blk HS.out (i := 0) rfl).1 0).trans rfl))
        | (go_at_call 45; go_loud (rw [HWS.out]; refine (spec_l01In.calls part 0 ((parts.length : Int) - 1) false _ HWI.out).mono ?_; rintro e ww_ ⟨rfl, hs_⟩; have HS_ := A0_ (Sp.far HS.out hs_.below); clear HS; have HS := HS_; clear HS_; clear hs_ ha0)))
      go_ret2
      rw [HRE.out]
      exact ⟨_, rfl, Kd.S_nil _ _ _ _ _, HS.out.below⟩
  · rw [if_neg c] at hre
    have HRE := A0_ hre
    have c0 : (cd == 0) = false := by rw [beq_eq_false_iff_ne]; exact c
    have c1 : (cd != 0) = true := by rw [bne_iff_ne]; exact c
    have c2 : (cd = 0) = False := eq_false c
    clear hc0 c hre hC hcp hO hco hz
    go_enter Try.func12, Try.ntmps12
    go_wp2_with (first
      | ((with_reducible refine gate_dst (N := 3) rfl ?_); go_loud (refine box_event ?hg (N := 3) ?hd (cs := #[.slice Ap parts.length cp]) (t := 32) ?hr ?_; (case hd => rfl); (case hg => rfl); (case hr => first | (go_simp; done) | (go_simp; rfl)); intro ga hgb_ wb_ hcb_ hbb_; have HS_ := A0_ (Sp.boxed HS.out hgb_ hcb_ hbb_); clear HS; have HS := HS_; clear HS_; clear hgb_ hcb_ hbb_; have ha0 := (blk_cell (Sp.blk HS.out (i := 0) rfl).1 0).trans rfl))
      | (go_at_call 44; go_loud (refine (HRD.out _ HS.out.below).mono ?_; rintro e wi_ ⟨rfl, hs_⟩; have HS_ := A0_ (Sp.far HS.out hs_); clear HS; have HS := HS_; clear HS_; clear hs_ ha0)))
    go_ret2
    rw [HRE.out]
    exact ⟨_, rfl, Kd.S_nil _ _ _ _ _, HS.out.below⟩
end Go.Proofs.Ytlbckkagjekhnaa.A




namespace Go.Proofs.Ytlbckkagjekhnaa.A
open Go.RowKit Go.Proofs.YtlbckkagjekhnaaW.PrintWords Go.Proofs.YtlbckkagjekhnaaW.PrintLast Go.Proofs.YtlbckkagjekhnaaW.PrintMore
attribute [local go_sem] max2_int min2_int max_two min_two max_three min_three max_four min_four   -- for this text's walks alone
set_option linter.unusedVariables false
set_option linter.unusedSimpArgs false
def laws_markCubeS.l0 : Nat → List (S69) → Int → Int → Option (Int × (List (S69)))
  | 0, _, _, _ => none
  | k + 1, x0, x1, x5 => if x5 < (x0.length : Int) then (if 0 ≤ x5 then ((some (x0.set (x5 : Int).toNat (⟨x1, (rd_T69 x0 x5).f1, (rd_T69 x0 x5).f2⟩ : S69) : List (S69))).bind fun y332 => ((some (y332.set (x5 : Int).toNat (⟨(rd_T69 y332 x5).f0, wrap64 (x1 + 1), (rd_T69 y332 x5).f2⟩ : S69) : List (S69))).bind fun y333 => (laws_markCubeS.l0 k (y333.set (x5 : Int).toNat (⟨(rd_T69 y333 x5).f0, (rd_T69 y333 x5).f1, wrap64 ((wrap64 (x1 + 1)) + 1)⟩ : S69)) (wrap64 ((wrap64 ((wrap64 (x1 + 1)) + 1)) + 1)) (wrap64 (x5 + 1))))) else (none)) else (some (x1, x0))
def laws_markCubeS.f (k : Nat) (l0 : List (S69)) (a1 : Int) : Option (Int × (List (S69))) := laws_markCubeS.l0 k l0 a1 0
set_option maxHeartbeats 8000000 in
set_option maxRecDepth 100000 in
theorem laws_markCubeS.calls (k : Nat) (P0_ : Nat → Prop) (u9000_ : Value) (l0 : List (S69)) (a1 : Int) (r1 : Int) (r2 : List (S69)) (w0 w : World) (hB : Below w0.heap.size w0 w) (ho0 : Kd.R k69 69 w w0.heap.size P0_ u9000_ l0) (h : laws_markCubeS.f k l0 a1 = some (r1, r2)) :
    Calls Try.prog 20 #[u9000_, .int .i64 a1] w fun e w' => e = .returned (.int .i64 r1) ∧ Kd.R k69 69 w' w0.heap.size (fun k_ => (P0_ k_ ∨ w.heap.size ≤ k_)) u9000_ r2 ∧ Below w0.heap.size w0 w' ∧ Kept w w' (fun k_ => P0_ k_) := by
 have HO0 := A0_ (show Kd.R k69 69 w w0.heap.size (fun k_ => (P0_ k_ ∨ w.heap.size ≤ k_)) u9000_ l0 from Kd.R_mono ho0 (fun k_ hk => (.inl hk)))
 have HK := A0_ (Kept.refl w (fun k_ => P0_ k_))
 (have HW0 := A0_ hB.size); (have HB := A0_ hB); clear hB; (have H : (laws_markCubeS.l0 k l0 a1 0) = some (r1, r2) := h); clear h; (have H' := A0_ H); clear H; (go_enter Try.func20, Try.ntmps20); go_wp2
 go_loopg [1, 5] k (fun kq v1 v5 w' => ∃ (x0_1 : List (S69)) (x1_1 : Int) (x5_1 : Int), v1 = .int .i64 x1_1 ∧ v5 = .int .i64 x5_1 ∧ Aside0 (laws_markCubeS.l0 kq x0_1 x1_1 x5_1 = some (r1, r2)) ∧ Aside0 (kq ≤ k) ∧ Aside0 (Kd.R k69 69 w' w0.heap.size (fun k_ => (P0_ k_ ∨ w.heap.size ≤ k_)) u9000_ x0_1) ∧ Aside0 (Kept w w' (fun k_ => P0_ k_)) ∧ Aside0 (Below w0.heap.size w0 w'))
 case atStart => exact ⟨(l0), (a1), (0), (by first | rfl | (simp; done) | (simp [*]; done)), (by first | rfl | (simp; done) | (simp [*]; done)), H', ⟨Nat.le_refl _⟩, ⟨by (with_reducible repeat (first | apply Ra_ | apply Rn_ | apply Rd_)); exact HO0.out⟩, ⟨by repeat (first | (with_reducible first | exact HK.out | apply Kept.alloc | apply Kept.drewN | apply Kept.drew) | exact HK.out)⟩, ⟨by repeat (first | (with_reducible first | exact HB.out | apply ba_ | apply bn_ | apply bd_) | exact HB.out)⟩⟩
 case round =>
  clear H'; (try clear c2); (try clear p2); (obtain ⟨x0_1, x1_1, x5_1, rfl, rfl, HA, HK1, HO_0, HK, HB⟩ := hrel)
  cases gk with
  | zero => exact absurd HA.out (by simp [laws_markCubeS.l0])
  | succ k1 =>
   (have H := HA.out); clear HA; (simp only [laws_markCubeS.l0] at H); (by_cases c3 : x5_1 < (x0_1.length : Int))
   ·(rw [if_pos c3] at H); (have c3b0 : decide (x5_1 < (x0_1.length : Int)) = true := decide_eq_true c3); clear c3; (by_cases c4 : 0 ≤ x5_1)
    ·(rw [if_pos c4] at H); (have c4b0 : decide (0 ≤ x5_1) = true := decide_eq_true c4); clear c4; (obtain ⟨y332, hy332⟩ : ∃ y_ : List (S69), y_ = (x0_1.set (x5_1 : Int).toNat (⟨x1_1, (rd_T69 x0_1 x5_1).f1, (rd_T69 x0_1 x5_1).f2⟩ : S69)) := ⟨_, rfl⟩)
     replace H : ((some (y332.set (x5_1 : Int).toNat (⟨(rd_T69 y332 x5_1).f0, wrap64 (x1_1 + 1), (rd_T69 y332 x5_1).f2⟩ : S69) : List (S69))).bind fun y333 => (laws_markCubeS.l0 k1 (y333.set (x5_1 : Int).toNat (⟨(rd_T69 y333 x5_1).f0, (rd_T69 y333 x5_1).f1, wrap64 ((wrap64 (x1_1 + 1)) + 1)⟩ : S69)) (wrap64 ((wrap64 ((wrap64 (x1_1 + 1)) + 1)) + 1)) (wrap64 (x5_1 + 1)))) = some (r1, r2) := by first | (rw [hy332]; with_reducible exact H) | (have H2_ := (Option.bind_some _ _).symm.trans H; rw [hy332]; with_reducible exact H2_) | (have H2_ := (Option.bind_some _ _).symm.trans H; with_reducible exact H2_) | with_reducible exact H | (rw [hy332]; exact H) | exact H
     (have Ny332 := A0_ hy332); clear hy332; (obtain ⟨y333, hy333⟩ : ∃ y_ : List (S69), y_ = (y332.set (x5_1 : Int).toNat (⟨(rd_T69 y332 x5_1).f0, wrap64 (x1_1 + 1), (rd_T69 y332 x5_1).f2⟩ : S69)) := ⟨_, rfl⟩); (replace H : (laws_markCubeS.l0 k1 (y333.set (x5_1 : Int).toNat (⟨(rd_T69 y333 x5_1).f0, (rd_T69 y333 x5_1).f1, wrap64 ((wrap64 (x1_1 + 1)) + 1)⟩ : S69)) (wrap64 ((wrap64 ((wrap64 (x1_1 + 1)) + 1)) + 1)) (wrap64 (x5_1 + 1))) = some (r1, r2) := by first | (rw [hy333]; with_reducible exact H) | (have H2_ := (Option.bind_some _ _).symm.trans H; rw [hy333]; with_reducible exact H2_) | (have H2_ := (Option.bind_some _ _).symm.trans H; with_reducible exact H2_) | with_reducible exact H | (rw [hy333]; exact H) | exact H); (have Ny333 := A0_ hy333); clear hy333; (obtain ⟨y334, hy334⟩ : ∃ y_ : List (S69), y_ = (y333.set (x5_1 : Int).toNat (⟨(rd_T69 y333 x5_1).f0, (rd_T69 y333 x5_1).f1, wrap64 ((wrap64 (x1_1 + 1)) + 1)⟩ : S69)) := ⟨_, rfl⟩); (replace H : (laws_markCubeS.l0 k1 y334 (wrap64 ((wrap64 ((wrap64 (x1_1 + 1)) + 1)) + 1)) (wrap64 (x5_1 + 1))) = some (r1, r2) := by first | (rw [hy334]; with_reducible exact H) | (have H2_ := (Option.bind_some _ _).symm.trans H; rw [hy334]; with_reducible exact H2_) | (have H2_ := (Option.bind_some _ _).symm.trans H; with_reducible exact H2_) | with_reducible exact H | (rw [hy334]; exact H) | exact H); (have Ny334 := A0_ hy334); clear hy334; (have H' := A0_ H); clear H; (obtain ⟨Ao8, co8, eo8⟩ := Kd.R_slice HO_0.out); subst eo8; (have p5 : 0 ≤ (x5_1 : Int) := of_decide_eq_true (by first | (with_reducible assumption) | assumption)); (have q5 : (x5_1 : Int) < ((x0_1.length : Int) : Int) := of_decide_eq_true (by first | (with_reducible assumption) | assumption)); (obtain ⟨go5, co5, eo5, gb5, gl5, cl5, HG5⟩ := Kd.R_form HO_0.out (by omega)); ((first | cases eo5 | (injection eo5 with ea_ en_ ec_; (first | subst ea_ | (injection ea_ with ea_; subst ea_)); subst ec_; clear en_))); (have GB5 := A0_ gb5); (have GG5 := A0_ HG5); clear gb5 gl5 HG5; (have HMgo5 := A0_ (show (P0_ go5 ∨ w.heap.size ≤ go5) from (HO_0.out.1 _ rfl))); (obtain ⟨ce5, hcl5, hM5, hcc5, hfr5⟩ := Kd.R_elem HO_0.out z69 (x5_1 : Int) p5 q5); (obtain rfl := k69_openM hM5); (have hx5_0 : wr.cell? ⟨go5, (x5_1 : Int).toNat * 3, none⟩ = some (.int .i64 ((rd_T69 x0_1 x5_1).f0)) := hcc5 0 _ rfl); (have hx5_1 : wr.cell? ⟨go5, (x5_1 : Int).toNat * 3 + 1, none⟩ = some (.int .i64 ((rd_T69 x0_1 x5_1).f1)) := hcc5 1 _ rfl); (have hx5_2 : wr.cell? ⟨go5, (x5_1 : Int).toNat * 3 + 2, none⟩ = some (.int .i64 ((rd_T69 x0_1 x5_1).f2)) := hcc5 2 _ rfl); (have hf5_0 : wr.frozen? ⟨go5, (x5_1 : Int).toNat * 3, none⟩ = false := hfr5 0); (have hf5_1 : wr.frozen? ⟨go5, (x5_1 : Int).toNat * 3 + 1, none⟩ = false := hfr5 1); (have hf5_2 : wr.frozen? ⟨go5, (x5_1 : Int).toNat * 3 + 2, none⟩ = false := hfr5 2); clear hcl5 hcc5 hfr5 hM5; (replace p5 := eq_true p5); (replace q5 := eq_true q5)
     have HX9 := A0_ (show Kd.R k69 69 wr w0.heap.size (fun k_ => (P0_ k_ ∨ w.heap.size ≤ k_)) (.slice (some ⟨go5, 0, none⟩) x0_1.length co8) x0_1 from (by (with_reducible repeat (first | apply Ra_ | apply Rn_ | apply Rd_)); exact HO_0.out))
     (obtain ⟨ce9, hcl9, hM9, hcc9, hfr9⟩ := Kd.R_elem HX9.out z69 (x5_1 : Int) (of_decide_eq_true (by first | (with_reducible assumption) | assumption)) (by have h_ : (x5_1 : Int) < ((x0_1.length : Int) : Int) := of_decide_eq_true (by first | (with_reducible assumption) | assumption); first | exact h_ | (have e_ := (Kd.R_reads' HO_0.out).1; omega) | simpa using h_)); (obtain rfl := k69_openM hM9)
     have HP9 := Kd.R_seg HX9.out (x5_1 : Int) (of_decide_eq_true (by first | (with_reducible assumption) | assumption)) (by have h_ : (x5_1 : Int) < ((x0_1.length : Int) : Int) := of_decide_eq_true (by first | (with_reducible assumption) | assumption); first | exact h_ | (have e_ := (Kd.R_reads' HO_0.out).1; omega) | simpa using h_) (seg := [.int .i64 x1_1]) (j := 0) hcl9 hcc9 (show 1 ≤ 3 from by decide) (x' := (⟨x1_1, (rd_T69 x0_1 x5_1).f1, (rd_T69 x0_1 x5_1).f2⟩ : S69)) (k69_mkM _ _ _ (⟨x1_1, (rd_T69 x0_1 x5_1).f1, (rd_T69 x0_1 x5_1).f2⟩ : S69) ) (fun _ hk => hk)
     (have hx9_0 := hcc9 0 _ rfl); ((try simp only [show (k69).sz = 3 from rfl, Nat.mul_one, Nat.add_zero] at hx9_0)); (have hf9_0 := hfr9 0); ((try simp only [show (k69).sz = 3 from rfl, Nat.mul_one, Nat.add_zero] at hf9_0)); clear hcl9 hcc9 hfr9 hM9
     go_wp2_with (first | ((with_reducible refine gate_store (t := 2) (p := 16) rfl ?_); refine store_event (t := 2) (p := 16) (v := ?vo_w10) (w1 := (wr.setCell ⟨go5, (x5_1 : Int).toNat * 3, none⟩ (.int .i64 x1_1))) ?hg ?ho ?hn ?hr ?_; (case ho => rfl); (case hg => rfl); (case hn => rfl); (case hr => first | (go_simp; done) | (go_simp; rfl)); intro w10 hw; have hg : wr.grownBy w10 (some go5) := (by rw [hw]; exact HP9.2); have hp_ : Kd.R k69 69 w10 w0.heap.size (fun k_ => (P0_ k_ ∨ w.heap.size ≤ k_)) (.slice (some ⟨go5, 0, none⟩) x0_1.length co8) y332 := (by rw [hw, Ny332.out]; exact HP9.1); clear HP9; have n0_ := A0_ (hp_); have n1_ := A0_ ((by rw [hw]; exact below_set (HB.out) GB5.out : Below w0.heap.size w0 w10)); have n2_ := A0_ (Kept.of_grown (S := (fun k_ => P0_ k_)) hg (by repeat (first | (with_reducible first | exact HK.out | apply Kept.alloc | apply Kept.drewN | apply Kept.drew) | exact HK.out)) (fun k_ e_ => (HO_0.out.1 k_ e_))); clear HO_0; clear HB; clear HK; have HO_0 := n0_; have HB := n1_; have HK := n2_; clear n0_ n1_ n2_; clear hg hw hp_; have p6 : 0 ≤ (x5_1 : Int) := of_decide_eq_true (by first | (with_reducible assumption) | assumption); have q6 : (x5_1 : Int) < ((x0_1.length : Int) : Int) := of_decide_eq_true (by first | (with_reducible assumption) | assumption); obtain ⟨ce6, hcl6, hM6, hcc6, hfr6⟩ := Kd.R_elem HO_0.out z69 (x5_1 : Int) p6 q6; obtain rfl := k69_openM hM6; have hx6_0 : w10.cell? ⟨go5, (x5_1 : Int).toNat * 3, none⟩ = some (.int .i64 ((rd_T69 y332 x5_1).f0)) := hcc6 0 _ rfl; have hx6_1 : w10.cell? ⟨go5, (x5_1 : Int).toNat * 3 + 1, none⟩ = some (.int .i64 ((rd_T69 y332 x5_1).f1)) := hcc6 1 _ rfl; have hx6_2 : w10.cell? ⟨go5, (x5_1 : Int).toNat * 3 + 2, none⟩ = some (.int .i64 ((rd_T69 y332 x5_1).f2)) := hcc6 2 _ rfl; have hf6_0 : w10.frozen? ⟨go5, (x5_1 : Int).toNat * 3, none⟩ = false := hfr6 0; have hf6_1 : w10.frozen? ⟨go5, (x5_1 : Int).toNat * 3 + 1, none⟩ = false := hfr6 1; have hf6_2 : w10.frozen? ⟨go5, (x5_1 : Int).toNat * 3 + 2, none⟩ = false := hfr6 2; clear hcl6 hcc6 hfr6 hM6; replace p6 := eq_true p6; replace q6 := eq_true q6; have HX11 := A0_ (show Kd.R k69 69 w10 w0.heap.size (fun k_ => (P0_ k_ ∨ w.heap.size ≤ k_)) (.slice (some ⟨go5, 0, none⟩) x0_1.length co8) y332 from (by (with_reducible repeat (first | apply Ra_ | apply Rn_ | apply Rd_)); exact HO_0.out)); obtain ⟨ce11, hcl11, hM11, hcc11, hfr11⟩ := Kd.R_elem HX11.out z69 (x5_1 : Int) (of_decide_eq_true (by first | (with_reducible assumption) | assumption)) (by have h_ : (x5_1 : Int) < ((x0_1.length : Int) : Int) := of_decide_eq_true (by first | (with_reducible assumption) | assumption); first | exact h_ | (have e_ := (Kd.R_reads' HO_0.out).1; omega) | simpa using h_); obtain rfl := k69_openM hM11; have HP11 := Kd.R_seg HX11.out (x5_1 : Int) (of_decide_eq_true (by first | (with_reducible assumption) | assumption)) (by have h_ : (x5_1 : Int) < ((x0_1.length : Int) : Int) := of_decide_eq_true (by first | (with_reducible assumption) | assumption); first | exact h_ | (have e_ := (Kd.R_reads' HO_0.out).1; omega) | simpa using h_) (seg := [.int .i64 (wrap64 (x1_1 + 1))]) (j := 1) hcl11 hcc11 (show 2 ≤ 3 from by decide) (x' := (⟨(rd_T69 y332 x5_1).f0, wrap64 (x1_1 + 1), (rd_T69 y332 x5_1).f2⟩ : S69)) (k69_mkM _ _ _ (⟨(rd_T69 y332 x5_1).f0, wrap64 (x1_1 + 1), (rd_T69 y332 x5_1).f2⟩ : S69) ) (fun _ hk => hk); have hx11_1 := hcc11 1 _ rfl; (try simp only [show (k69).sz = 3 from rfl, Nat.mul_one, Nat.add_zero] at hx11_1); have hf11_1 := hfr11 1; (try simp only [show (k69).sz = 3 from rfl, Nat.mul_one, Nat.add_zero] at hf11_1); clear hcl11 hcc11 hfr11 hM11) | ((with_reducible refine gate_store (t := 2) (p := 23) rfl ?_); refine store_event (t := 2) (p := 23) (v := ?vo_w12) (w1 := (w10.setCell ⟨go5, (x5_1 : Int).toNat * 3 + 1, none⟩ (.int .i64 (wrap64 (x1_1 + 1))))) ?hg ?ho ?hn ?hr ?_; (case ho => rfl); (case hg => rfl); (case hn => rfl); (case hr => first | (go_simp; done) | (go_simp; rfl)); intro w12 hw; have hg : w10.grownBy w12 (some go5) := (by rw [hw]; exact HP11.2); have hp_ : Kd.R k69 69 w12 w0.heap.size (fun k_ => (P0_ k_ ∨ w.heap.size ≤ k_)) (.slice (some ⟨go5, 0, none⟩) x0_1.length co8) y333 := (by rw [hw, Ny333.out]; exact HP11.1); clear HP11; have n0_ := A0_ (hp_); have n1_ := A0_ ((by rw [hw]; exact below_set (HB.out) GB5.out : Below w0.heap.size w0 w12)); have n2_ := A0_ (Kept.of_grown (S := (fun k_ => P0_ k_)) hg (by repeat (first | (with_reducible first | exact HK.out | apply Kept.alloc | apply Kept.drewN | apply Kept.drew) | exact HK.out)) (fun k_ e_ => (HO_0.out.1 k_ e_))); clear HO_0; clear HB; clear HK; have HO_0 := n0_; have HB := n1_; have HK := n2_; clear n0_ n1_ n2_; clear hg hw hp_; have p7 : 0 ≤ (x5_1 : Int) := of_decide_eq_true (by first | (with_reducible assumption) | assumption); have q7 : (x5_1 : Int) < ((x0_1.length : Int) : Int) := of_decide_eq_true (by first | (with_reducible assumption) | assumption); obtain ⟨ce7, hcl7, hM7, hcc7, hfr7⟩ := Kd.R_elem HO_0.out z69 (x5_1 : Int) p7 q7; obtain rfl := k69_openM hM7; have hx7_0 : w12.cell? ⟨go5, (x5_1 : Int).toNat * 3, none⟩ = some (.int .i64 ((rd_T69 y333 x5_1).f0)) := hcc7 0 _ rfl; have hx7_1 : w12.cell? ⟨go5, (x5_1 : Int).toNat * 3 + 1, none⟩ = some (.int .i64 ((rd_T69 y333 x5_1).f1)) := hcc7 1 _ rfl; have hx7_2 : w12.cell? ⟨go5, (x5_1 : Int).toNat * 3 + 2, none⟩ = some (.int .i64 ((rd_T69 y333 x5_1).f2)) := hcc7 2 _ rfl; have hf7_0 : w12.frozen? ⟨go5, (x5_1 : Int).toNat * 3, none⟩ = false := hfr7 0; have hf7_1 : w12.frozen? ⟨go5, (x5_1 : Int).toNat * 3 + 1, none⟩ = false := hfr7 1; have hf7_2 : w12.frozen? ⟨go5, (x5_1 : Int).toNat * 3 + 2, none⟩ = false := hfr7 2; clear hcl7 hcc7 hfr7 hM7; replace p7 := eq_true p7; replace q7 := eq_true q7; have HX13 := A0_ (show Kd.R k69 69 w12 w0.heap.size (fun k_ => (P0_ k_ ∨ w.heap.size ≤ k_)) (.slice (some ⟨go5, 0, none⟩) x0_1.length co8) y333 from (by (with_reducible repeat (first | apply Ra_ | apply Rn_ | apply Rd_)); exact HO_0.out)); obtain ⟨ce13, hcl13, hM13, hcc13, hfr13⟩ := Kd.R_elem HX13.out z69 (x5_1 : Int) (of_decide_eq_true (by first | (with_reducible assumption) | assumption)) (by have h_ : (x5_1 : Int) < ((x0_1.length : Int) : Int) := of_decide_eq_true (by first | (with_reducible assumption) | assumption); first | exact h_ | (have e_ := (Kd.R_reads' HO_0.out).1; omega) | simpa using h_); obtain rfl := k69_openM hM13; have HP13 := Kd.R_seg HX13.out (x5_1 : Int) (of_decide_eq_true (by first | (with_reducible assumption) | assumption)) (by have h_ : (x5_1 : Int) < ((x0_1.length : Int) : Int) := of_decide_eq_true (by first | (with_reducible assumption) | assumption); first | exact h_ | (have e_ := (Kd.R_reads' HO_0.out).1; omega) | simpa using h_) (seg := [.int .i64 (wrap64 ((wrap64 (x1_1 + 1)) + 1))]) (j := 2) hcl13 hcc13 (show 3 ≤ 3 from by decide) (x' := (⟨(rd_T69 y333 x5_1).f0, (rd_T69 y333 x5_1).f1, wrap64 ((wrap64 (x1_1 + 1)) + 1)⟩ : S69)) (k69_mkM _ _ _ (⟨(rd_T69 y333 x5_1).f0, (rd_T69 y333 x5_1).f1, wrap64 ((wrap64 (x1_1 + 1)) + 1)⟩ : S69) ) (fun _ hk => hk); have hx13_2 := hcc13 2 _ rfl; (try simp only [show (k69).sz = 3 from rfl, Nat.mul_one, Nat.add_zero] at hx13_2); have hf13_2 := hfr13 2; (try simp only [show (k69).sz = 3 from rfl, Nat.mul_one, Nat.add_zero] at hf13_2); clear hcl13 hcc13 hfr13 hM13) | ((with_reducible refine gate_store (t := 2) (p := 30) rfl ?_); refine store_event (t := 2) (p := 30) (v := ?vo_w14) (w1 := (w12.setCell ⟨go5, (x5_1 : Int).toNat * 3 + 2, none⟩ (.int .i64 (wrap64 ((wrap64 (x1_1 + 1)) + 1))))) ?hg ?ho ?hn ?hr ?_; (case ho => rfl); (case hg => rfl); (case hn => rfl); (case hr => first | (go_simp; done) | (go_simp; rfl)); intro w14 hw; have hg : w12.grownBy w14 (some go5) := (by rw [hw]; exact HP13.2); have hp_ : Kd.R k69 69 w14 w0.heap.size (fun k_ => (P0_ k_ ∨ w.heap.size ≤ k_)) (.slice (some ⟨go5, 0, none⟩) x0_1.length co8) y334 := (by rw [hw, Ny334.out]; exact HP13.1); clear HP13; have n0_ := A0_ (hp_); have n1_ := A0_ ((by rw [hw]; exact below_set (HB.out) GB5.out : Below w0.heap.size w0 w14)); have n2_ := A0_ (Kept.of_grown (S := (fun k_ => P0_ k_)) hg (by repeat (first | (with_reducible first | exact HK.out | apply Kept.alloc | apply Kept.drewN | apply Kept.drew) | exact HK.out)) (fun k_ e_ => (HO_0.out.1 k_ e_))); clear HO_0; clear HB; clear HK; have HO_0 := n0_; have HB := n1_; have HK := n2_; clear n0_ n1_ n2_; clear hg hw hp_))
     (go_roundg k1)
     case measure => have := HK1.out; omega
     case rel => exact ⟨(y334), (wrap64 ((wrap64 ((wrap64 (x1_1 + 1)) + 1)) + 1)), (wrap64 (x5_1 + 1)), (by first | rfl | (simp; done) | (simp [*]; done)), (by first | rfl | (simp; done) | (simp [*]; done)), H', ⟨by have := HK1.out; omega⟩, ⟨by (with_reducible repeat (first | apply Ra_ | apply Rn_ | apply Rd_)); exact HO_0.out⟩, ⟨by repeat (first | (with_reducible first | exact HK.out | apply Kept.alloc | apply Kept.drewN | apply Kept.drew) | exact HK.out)⟩, ⟨by repeat (first | (with_reducible first | exact HB.out | apply ba_ | apply bn_ | apply bd_) | exact HB.out)⟩⟩
    ·(rw [if_neg c4] at H); (exact absurd H (by simp))
   ·(rw [if_neg c3] at H); (have c3b0 : decide (x5_1 < (x0_1.length : Int)) = false := decide_eq_false c3); clear c3; (simp only [Option.some.injEq, Prod.mk.injEq] at H); (obtain ⟨rfl, rfl⟩ := H); (obtain ⟨Ao15, co15, eo15⟩ := Kd.R_slice HO_0.out); subst eo15; go_wp2; go_ret; (exact ⟨by first | rfl | (simp [errW_none, errW_some] <;> rfl) | (simp [*, errW_none, errW_some] <;> rfl), by (with_reducible repeat (first | apply Ra_ | apply Rn_ | apply Rd_)); exact HO_0.out, by repeat (first | (with_reducible first | exact HB.out | apply ba_ | apply bn_ | apply bd_) | exact HB.out), by repeat (first | (with_reducible first | exact HK.out | apply Kept.alloc | apply Kept.drewN | apply Kept.drew) | exact HK.out)⟩)
end Go.Proofs.Ytlbckkagjekhnaa.A

/- Marks of the burrs' laws: numbers written into the cubes of an assembly, into rows of numbers; what is held. -/
namespace Go.Proofs.Ytlbckkagjekhnaa.A
set_option linter.unusedSimpArgs false
set_option linter.unusedVariables false
open Go.RowKit Go.Proofs.YtlbckkagjekhnaaW.PrintWords Go.Proofs.YtlbckkagjekhnaaW.PrintLast Go.Proofs.YtlbckkagjekhnaaW.PrintMore
abbrev kQ : Kd (List Cb) := Kd.slice 69 k69
def marksC (a : Int) (n : Nat) : List Cb := (List.range n).map fun (i : Nat) => ⟨a + 3 * (i : Int), a + 3 * (i : Int) + 1, a + 3 * (i : Int) + 2⟩
theorem marksC_len (a : Int) (n : Nat) : (marksC a n).length = n := by simp [marksC]
theorem markCubeS_ev (l : List Cb) (a : Int) (h : l.length ≤ 1048576) (h0 : 0 ≤ a) (h1 : a ≤ 1000000000000) : Ev (fun k => laws_markCubeS.f k l a) (a + 3 * (l.length : Int), marksC a l.length) := by
  unfold laws_markCubeS.f
  refine ev_at l.length (fun (s : List Cb × Int) j => s.1.length = l.length ∧ s.2 = a + 3 * (j : Int) ∧ s.1.take j = marksC a j) (a + 3 * (l.length : Int), marksC a l.length) (fun s i k => laws_markCubeS.l0 k s.1 s.2 i) (fun s hi => ?_) (fun s j hj hi => ?_) (l, a) ⟨rfl, by simp, by simp [marksC]⟩
  · refine Ev.step (f := fun _ => some (s.2, s.1)) (fun k => by simp only [laws_markCubeS.l0]; rw [if_neg (by omega)]) ?_
    have h3 := hi.2.2
    rw [List.take_of_length_le (by omega)] at h3
    rw [hi.2.1, h3]
    exact Ev.now _
  · have w1 : wrap64 (s.2 + 1) = s.2 + 1 := by have := hi.2.1; unfold wrap64; omega
    have w2 : wrap64 (s.2 + 1 + 1) = s.2 + 2 := by have := hi.2.1; unfold wrap64; omega
    have w3 : wrap64 (s.2 + 2 + 1) = s.2 + 3 := by have := hi.2.1; unfold wrap64; omega
    refine ⟨(s.1.set j ⟨s.2, s.2 + 1, s.2 + 2⟩, s.2 + 3), ⟨by simp only [List.length_set]; exact hi.1, by simp only; omega, ?_⟩, fun h2 => Ev.step (fun k => ?_) h2⟩
    · have hl : j < (s.1.set j (⟨s.2, s.2 + 1, s.2 + 2⟩ : Cb)).length := by rw [List.length_set]; omega
      simp only
      rw [List.take_succ_eq_append_getElem hl, List.getElem_set_self, List.take_set_of_le (Nat.le_refl j), hi.2.2, hi.2.1]
      simp [marksC, List.range_succ]
    · simp only [laws_markCubeS.l0, Int.toNat_natCast, Option.bind_some, w1, w2, w3, rd_T69]
      rw [if_pos (by omega), if_pos (by omega), wrap_succ j (by omega)]
      have hg : ∀ (l : List Cb) (x : Cb) (hl : j < l.length), (l.set j x).getD j z69 = x := fun l x hl => by simp [List.getD_eq_getElem?_getD, hl]
      have hjl : j < s.1.length := by omega
      rw [hg _ _ hjl]
      dsimp only
      rw [hg _ _ (by rw [List.length_set]; exact hjl)]
      dsimp only
      rw [List.set_set, List.set_set]
def t3 (rows : List (List Cb)) : Int := 3 * tot2 rows
theorem t3_next (rows : List (List Cb)) (i : Nat) (h : i < rows.length) : t3 (rows.take (i + 1)) = t3 (rows.take i) + 3 * (rows[i].length : Int) := by
  unfold t3 tot2
  rw [List.take_succ_eq_append_getElem h, List.map_append, List.sum_append]
  simp
  omega
theorem t3_le (rows : List (List Cb)) (i : Nat) : t3 (rows.take i) ≤ t3 rows ∧ 0 ≤ t3 (rows.take i) := by
  unfold t3 tot2
  have := congrArg (fun l => (List.map List.length l).sum) (List.take_append_drop i rows)
  simp only [List.map_append, List.sum_append] at this
  omega
theorem t3_cons (r : List Cb) (rs : List (List Cb)) : t3 (r :: rs) = 3 * (r.length : Int) + t3 rs := by unfold t3; rw [tot2_cons]; omega
/-- Numbers from a on, in the cubes of rows as long as the given ones. -/
def marksQ : Int → List (List Cb) → List (List Cb)
  | _, [] => []
  | a, r :: rs => marksC a r.length :: marksQ (a + 3 * (r.length : Int)) rs
theorem marksQ_len : ∀ (rows : List (List Cb)) (a : Int), (marksQ a rows).length = rows.length
  | [], _ => rfl
  | r :: rs, a => by simp [marksQ, marksQ_len rs]
theorem marksQ_at : ∀ (rows : List (List Cb)) (a : Int) (i : Nat) (h : i < rows.length), (marksQ a rows)[i]? = some (marksC (a + t3 (rows.take i)) rows[i].length)
  | r :: rs, a, 0, h => by simp [marksQ, t3, tot2]
  | r :: rs, a, i + 1, h => by
    simp only [marksQ, List.getElem?_cons_succ, List.getElem_cons_succ, List.take_succ_cons]
    rw [marksQ_at rs _ i (by simpa using h), t3_cons]
    congr 2
    omega
set_option maxHeartbeats 1000000 in
set_option maxRecDepth 100000 in
theorem laws_markCubeSS.calls2 (rows : List (List Cb)) (fp : Nat → Prop) (u : Value) (a : Int) (w0 w : World) (hB : Below w0.heap.size w0 w) (hS : Kd.S kQ 34 w w0.heap.size fp u rows) (h0 : 0 ≤ a) (h1 : a + t3 rows ≤ 1000000000000) (hl : rows.length ≤ 1048576) (hr : ∀ r ∈ rows, r.length ≤ 1048576) :
    Calls Try.prog 21 #[u, .int .i64 a] w fun e w' => e = .returned (.int .i64 (a + t3 rows)) ∧ Kd.S kQ 34 w' w0.heap.size (fun k => fp k ∨ w.heap.size ≤ k) u (marksQ a rows) ∧ Below w0.heap.size w0 w' ∧ Kept w w' fp := by
  obtain ⟨A, c, rfl⟩ := Kd.S_slice hS
  have HS := A0_ (Kd.S_mono (ok' := fun k => fp k ∨ w.heap.size ≤ k) hS (fun k hk => .inl hk))
  have HB := A0_ hB
  have HK := A0_ (Kept.refl w fp)
  have HA := A0_ (And.intro h0 h1)
  have HL := A0_ hl
  have HR := A0_ hr
  clear hS hB h0 h1 hl hr
  go_enter Try.func21, Try.ntmps21
  go_wp2
  go_loopg [1, 5] (rows.length + 1) (fun kq v1 v5 w' => ∃ (i : Nat) (rs : List (List Cb)), v5 = .int .i64 (i : Int) ∧ v1 = .int .i64 (a + t3 (rows.take i)) ∧ Aside0 (i ≤ rows.length ∧ kq + i = rows.length + 1 ∧ rs.length = rows.length ∧ (∀ j, i ≤ j → rs[j]? = rows[j]?) ∧ ∀ j, j < i → rs[j]? = (marksQ a rows)[j]?) ∧ Aside0 (Kd.S kQ 34 w' w0.heap.size (fun k => fp k ∨ w.heap.size ≤ k) (.slice A rows.length c) rs) ∧ Aside0 (Below w0.heap.size w0 w') ∧ Aside0 (Kept w w' fp))
  case atStart => exact ⟨0, rows, rfl, by simp [t3, tot2], ⟨by omega, by omega, rfl, fun _ _ => rfl, fun j hj => by omega⟩, HS, HB, HK⟩
  case round =>
    clear HS HB HK
    obtain ⟨i, rs, rfl, rfl, HX, HS, HB, HK⟩ := hrel
    obtain ⟨k1, rfl⟩ : ∃ k1, gk = k1 + 1 := ⟨gk - 1, by have := HX.out; omega⟩
    by_cases ci : i < rows.length
    · have ci0 : decide (i < rows.length) = true := decide_eq_true ci
      have ci1 := eq_true ci
      have hrl := HX.out.2.2.1
      obtain ⟨g, cap, e, hgb, hgl, _⟩ := Kd.S_form HS.out (by omega)
      rw [hrl] at e
      injection e with e1 e2 e3
      subst e1 e3
      obtain ⟨oki, cc, hcl, hM, hcc, hfr, hoki, hH⟩ := Kd.S_elem HS.out [] (i : Int) (by omega) (by omega)
      have hget : rs.getD (i : Int).toNat [] = rows[i] := by
        rw [Int.toNat_natCast, List.getD_eq_getElem?_getD, HX.out.2.2.2.1 i (Nat.le_refl i), List.getElem?_eq_getElem ci]; rfl
      rw [hget] at hM
      obtain ⟨v, rfl, hRv⟩ := hM
      obtain ⟨A2, c2, rfl⟩ := Kd.R_slice hRv
      have hcell := hcc 0 _ rfl
      have ez : (i : Int).toNat * kQ.sz + 0 = i := by show (i : Int).toNat * 1 + 0 = i; omega
      rw [ez] at hcell
      obtain ⟨r, hrr⟩ : ∃ r, r = rows[i] := ⟨_, rfl⟩
      have htn := t3_next rows i ci
      rw [← hrr] at hRv hcell htn hH
      have HTN := A0_ htn
      have HMJ := A0_ (show (marksQ a rows)[i]? = some (marksC (a + t3 (rows.take i)) r.length) by rw [hrr]; exact marksQ_at rows a i ci)
      have hrlen : r.length ≤ 1048576 := hrr ▸ HR.out _ (List.getElem_mem ci)
      have htl := t3_le rows i
      have htl2 := t3_le rows (i + 1)
      obtain ⟨km, hkm⟩ := (markCubeS_ev r (a + t3 (rows.take i)) hrlen (by have := HA.out; omega) (by have := HA.out; omega)).rounds
      have HKM := A0_ hkm
      have HRV := A0_ hRv
      have HWI := A0_ (wrap_succ i (by have := HL.out; omega))
      have HH := A0_ hH
      have HOK := A0_ hoki
      have HC := A0_ ci
      have p0 : ((i : Int) < (rows.length : Int)) = True := eq_true (by omega)
      clear hkm hRv hH hoki hcl hcc hfr hget hrr htn htl htl2 hrlen ci
      go_wp2_with (first
        | (go_at_call 20; refine (laws_markCubeS.calls km oki _ r (a + t3 (rows.take i)) _ _ w0 _ HB.out HRV.out HKM.out).mono ?_; rintro e w1 ⟨rfl, ho, hb, hk⟩; have HO := A0_ ho; have HB1 := A0_ hb; have HKK := A0_ hk; clear ho hb hk))
      go_roundg k1
      case measure => omega
      case rel =>
        rw [HWI.out]
        refine ⟨i + 1, rs.set i (marksC (a + t3 (rows.take i)) r.length), rfl, by rw [HTN.out]; congr 1; omega, ⟨by have := HC.out; omega, by have := HX.out; omega, by rw [List.length_set]; exact HX.out.2.2.1, fun j hj => by rw [List.getElem?_set_ne (by omega)]; exact HX.out.2.2.2.1 j (by omega), fun j hj => by
          by_cases e : j = i
          · subst e; rw [List.getElem?_set_self (by rw [HX.out.2.2.1]; exact HC.out), HMJ.out]
          · rw [List.getElem?_set_ne (Ne.symm e)]; exact HX.out.2.2.2.2 j (by omega)⟩, ⟨?_⟩, HB1, ⟨?_⟩⟩
        · have hw := Kd.H_widen HH.out
          have hk2 := Kd.H_kept hw HKK.out (fun k _ hn hs => hn (.inl hs))
          have := Kd.H_back hk2 (x' := marksC (a + t3 (rows.take i)) r.length) ⟨_, rfl, Kd.R_mono (ok' := fun k => oki k ∨ (fp k ∨ w.heap.size ≤ k) ∧ wr.heap.size ≤ k) HO.out (fun k hk => hk.elim .inl (fun h => .inr ⟨.inr (Nat.le_trans HK.out.1 h), h⟩))⟩ (fun _ h => h)
          rw [Int.toNat_natCast] at this
          exact this
        · exact Kept.then_ HK.out HKK.out (fun k hk => (HOK.out k hk).1)
    · have ci0 : decide (i < rows.length) = false := decide_eq_false ci
      have hi : i = rows.length := by have := HX.out; omega
      have HI := A0_ hi
      clear ci hi
      go_wp2
      go_ret
      have e : rs = marksQ a rows := List.ext_getElem? (fun j => by
        by_cases c : j < rows.length
        · exact HX.out.2.2.2.2 j (by rw [HI.out]; exact c)
        · rw [List.getElem?_eq_none (by rw [HX.out.2.2.1]; omega), List.getElem?_eq_none (by rw [marksQ_len]; omega)])
      exact ⟨by rw [HI.out, List.take_length]; rfl, e ▸ HS.out, HB.out, HK.out⟩
set_option maxHeartbeats 1000000 in
set_option maxRecDepth 100000 in
theorem laws_markAssembly.calls2 (rows : List (List Cb)) (fp : Nat → Prop) (A : Option Addr) (n c : Nat) (a : Int) (w0 w : World) (hB : Below w0.heap.size w0 w) (hS : Kd.S kQ 34 w w0.heap.size fp (.slice A n c) rows) (h0 : 0 ≤ a) (h1 : a + t3 rows ≤ 1000000000000) (hl : rows.length ≤ 1048576) (hr : ∀ r ∈ rows, r.length ≤ 1048576) :
    Calls Try.prog 19 #[.agg #[.slice A n c], .int .i64 a] w fun e w' => e = .returned (.int .i64 (a + t3 rows)) ∧ ∃ rows', Kd.S kQ 34 w' w0.heap.size (fun k => fp k ∨ w.heap.size ≤ k) (.slice A n c) rows' ∧ Below w0.heap.size w0 w' ∧ Kept w w' fp := by
  have HS := A0_ (Kd.S_alloc hS (.cells #[.slice A n c] 32))
  have HB := A0_ (below_alloc hB (.cells #[.slice A n c] 32))
  have HKA := A0_ (Kept.alloc (Kept.refl w fp) (.cells #[.slice A n c] 32))
  have HA := A0_ (And.intro h0 h1)
  have HL := A0_ hl
  have HR := A0_ hr
  clear hS hB h0 h1 hl hr
  go_enter Try.func19, Try.ntmps19
  go_wp2_with (first
    | (go_at_call 21; refine (laws_markCubeSS.calls2 rows fp _ a w0 _ HB.out HS.out HA.out.1 HA.out.2 HL.out HR.out).mono ?_; rintro e w1 ⟨rfl, hs, hb, hk⟩; have HS1 := A0_ hs; have HB1 := A0_ hb; have HK1 := A0_ hk; clear hs hb hk))
  go_ret
  exact ⟨rfl, _, Kd.S_mono HS1.out (fun k hk => hk.imp_right (fun h => Nat.le_trans HKA.out.1 h)), HB1.out, Kept.then_ HKA.out HK1.out (fun k hk => .inl hk)⟩
end Go.Proofs.Ytlbckkagjekhnaa.A

namespace Go.Proofs.Ytlbckkagjekhnaa.A
open Go.RowKit Go.Proofs.YtlbckkagjekhnaaW.PrintWords Go.Proofs.YtlbckkagjekhnaaW.PrintLast Go.Proofs.YtlbckkagjekhnaaW.PrintMore
attribute [local go_sem] max2_int min2_int max_two min_two max_three min_three max_four min_four   -- for this text's walks alone
set_option linter.unusedVariables false
set_option linter.unusedSimpArgs false
def laws_heldCubeS.l0 : Nat → List (S69) → Int → Int → Option (Int)
  | 0, _, _, _ => none
  | k + 1, x0, x1, x5 => if x5 < (x0.length : Int) then (if 0 ≤ x5 then (if ((rd_T69 x0 x5).f0) = x1 then (if ((rd_T69 x0 x5).f1) = (wrap64 (x1 + 1)) then (if ((rd_T69 x0 x5).f2) = (wrap64 ((wrap64 (x1 + 1)) + 1)) then (laws_heldCubeS.l0 k x0 (wrap64 ((wrap64 ((wrap64 (x1 + 1)) + 1)) + 1)) (wrap64 (x5 + 1))) else (some (-1))) else (some (-1))) else (some (-1))) else (none)) else (some x1)
def laws_heldCubeS.f (k : Nat) (l0 : List (S69)) (a1 : Int) : Option (Int) := laws_heldCubeS.l0 k l0 a1 0
set_option maxHeartbeats 8000000 in
set_option maxRecDepth 100000 in
theorem laws_heldCubeS.calls (k : Nat) (A0 : Option Addr) (c0 : Nat) (l0 : List (S69)) (a1 : Int) (r : Int) (w : World) (hr0 : Kd.C k69 w A0 l0.length l0) (hc0 : l0.length ≤ c0) (h : laws_heldCubeS.f k l0 a1 = some r) :
    Calls Try.prog 53 #[.slice A0 l0.length c0, .int .i64 a1] w fun e w' => e = .returned (.int .i64 r) ∧ Drawn0 w w' := by
 (have HR0 := A0_ hr0); (have HC0 := A0_ hc0); clear hr0 hc0; (have H : (laws_heldCubeS.l0 k l0 a1 0) = some r := h); clear h; (have H' := A0_ H); clear H; (go_enter Try.func53, Try.ntmps53); go_wp2
 go_loopg [1, 5] k (fun kq v1 v5 w' => ∃ (x1_1 : Int) (x5_1 : Int), v1 = .int .i64 x1_1 ∧ v5 = .int .i64 x5_1 ∧ Aside0 (laws_heldCubeS.l0 kq l0 x1_1 x5_1 = some r) ∧ Aside0 (kq ≤ k) ∧ Drawn0 w w')
 case atStart => exact ⟨(a1), (0), (by first | rfl | (simp; done) | (simp [*]; done)), (by first | rfl | (simp; done) | (simp [*]; done)), H', ⟨Nat.le_refl _⟩, by repeat (first | exact Drawn0.refl _ | apply Drawn0.step)⟩
 case round =>
  clear H'; (try clear p2); (obtain ⟨x1_1, x5_1, rfl, rfl, HA, HK1, ⟨m1, rfl⟩⟩ := hrel)
  cases gk with
  | zero => exact absurd HA.out (by simp [laws_heldCubeS.l0])
  | succ k1 =>
   (have H := HA.out); clear HA; (simp only [laws_heldCubeS.l0] at H); (by_cases c3 : x5_1 < (l0.length : Int))
   ·(rw [if_pos c3] at H); (have c3b0 : decide (x5_1 < (l0.length : Int)) = true := decide_eq_true c3); clear c3; (by_cases c4 : 0 ≤ x5_1)
    ·(rw [if_pos c4] at H); (have c4b0 : decide (0 ≤ x5_1) = true := decide_eq_true c4); clear c4; (by_cases c5 : ((rd_T69 l0 x5_1).f0) = x1_1)
     ·(rw [if_pos c5] at H); (have c5b0 : (((rd_T69 l0 x5_1).f0) == x1_1) = true := beq_iff_eq.mpr c5); (have c5b1 : (((rd_T69 l0 x5_1).f0) != x1_1) = false := bne_eq_false_iff_eq.mpr c5); clear c5; (by_cases c6 : ((rd_T69 l0 x5_1).f1) = (wrap64 (x1_1 + 1)))
      ·(rw [if_pos c6] at H); (have c6b0 : (((rd_T69 l0 x5_1).f1) == (wrap64 (x1_1 + 1))) = true := beq_iff_eq.mpr c6); (have c6b1 : (((rd_T69 l0 x5_1).f1) != (wrap64 (x1_1 + 1))) = false := bne_eq_false_iff_eq.mpr c6); clear c6; (by_cases c7 : ((rd_T69 l0 x5_1).f2) = (wrap64 ((wrap64 (x1_1 + 1)) + 1)))
       ·(rw [if_pos c7] at H); (have c7b0 : (((rd_T69 l0 x5_1).f2) == (wrap64 ((wrap64 (x1_1 + 1)) + 1))) = true := beq_iff_eq.mpr c7); (have c7b1 : (((rd_T69 l0 x5_1).f2) != (wrap64 ((wrap64 (x1_1 + 1)) + 1))) = false := bne_eq_false_iff_eq.mpr c7); clear c7; (have H' := A0_ H); clear H; (have p337 : 0 ≤ (x5_1 : Int) := of_decide_eq_true (by first | (with_reducible assumption) | assumption)); (have q337 : x5_1 < (l0.length : Int) := of_decide_eq_true (by first | (with_reducible assumption) | assumption)); (obtain ⟨ad337, e337, hx337_0, hx337_1, hx337_2⟩ := at_T69 HR0.out x5_1 p337 q337); (cases e337); (replace p337 := eq_true p337); (replace q337 := eq_true q337); (have p338 : 0 ≤ (x5_1 : Int) := of_decide_eq_true (by first | (with_reducible assumption) | assumption)); (have q338 : x5_1 < (l0.length : Int) := of_decide_eq_true (by first | (with_reducible assumption) | assumption)); (obtain ⟨ad338, e338, hx338_0, hx338_1, hx338_2⟩ := at_T69 HR0.out x5_1 p338 q338); (obtain rfl : ad337 = ad338 := (by injection e338)); (replace p338 := eq_true p338); (replace q338 := eq_true q338); (have p339 : 0 ≤ (x5_1 : Int) := of_decide_eq_true (by first | (with_reducible assumption) | assumption)); (have q339 : x5_1 < (l0.length : Int) := of_decide_eq_true (by first | (with_reducible assumption) | assumption)); (obtain ⟨ad339, e339, hx339_0, hx339_1, hx339_2⟩ := at_T69 HR0.out x5_1 p339 q339); (obtain rfl : ad337 = ad339 := (by injection e339)); (replace p339 := eq_true p339); (replace q339 := eq_true q339); go_wp2; (go_roundg k1)
        case measure => have := HK1.out; omega
        case rel => exact ⟨(wrap64 ((wrap64 ((wrap64 (x1_1 + 1)) + 1)) + 1)), (wrap64 (x5_1 + 1)), (by first | rfl | (simp; done) | (simp [*]; done)), (by first | rfl | (simp; done) | (simp [*]; done)), H', ⟨by have := HK1.out; omega⟩, by repeat (first | exact Drawn0.refl _ | apply Drawn0.step)⟩
       ·(rw [if_neg c7] at H); (have c7b0 : (((rd_T69 l0 x5_1).f2) == (wrap64 ((wrap64 (x1_1 + 1)) + 1))) = false := beq_eq_false_iff_ne.mpr c7); (have c7b1 : (((rd_T69 l0 x5_1).f2) != (wrap64 ((wrap64 (x1_1 + 1)) + 1))) = true := bne_iff_ne.mpr c7); (obtain rfl := Option.some.inj H); (have p337 : 0 ≤ (x5_1 : Int) := of_decide_eq_true (by first | (with_reducible assumption) | assumption)); (have q337 : x5_1 < (l0.length : Int) := of_decide_eq_true (by first | (with_reducible assumption) | assumption)); (obtain ⟨ad337, e337, hx337_0, hx337_1, hx337_2⟩ := at_T69 HR0.out x5_1 p337 q337); (cases e337); (replace p337 := eq_true p337); (replace q337 := eq_true q337); (have p338 : 0 ≤ (x5_1 : Int) := of_decide_eq_true (by first | (with_reducible assumption) | assumption)); (have q338 : x5_1 < (l0.length : Int) := of_decide_eq_true (by first | (with_reducible assumption) | assumption)); (obtain ⟨ad338, e338, hx338_0, hx338_1, hx338_2⟩ := at_T69 HR0.out x5_1 p338 q338); (obtain rfl : ad337 = ad338 := (by injection e338)); (replace p338 := eq_true p338); (replace q338 := eq_true q338); (have p339 : 0 ≤ (x5_1 : Int) := of_decide_eq_true (by first | (with_reducible assumption) | assumption)); (have q339 : x5_1 < (l0.length : Int) := of_decide_eq_true (by first | (with_reducible assumption) | assumption)); (obtain ⟨ad339, e339, hx339_0, hx339_1, hx339_2⟩ := at_T69 HR0.out x5_1 p339 q339); (obtain rfl : ad337 = ad339 := (by injection e339)); (replace p339 := eq_true p339); (replace q339 := eq_true q339); go_wp2; go_ret; (exact ⟨by first | rfl | (simp; done) | (simp [*]; done), by repeat (first | exact Drawn0.refl _ | apply Drawn0.step)⟩)
      ·(rw [if_neg c6] at H); (have c6b0 : (((rd_T69 l0 x5_1).f1) == (wrap64 (x1_1 + 1))) = false := beq_eq_false_iff_ne.mpr c6); (have c6b1 : (((rd_T69 l0 x5_1).f1) != (wrap64 (x1_1 + 1))) = true := bne_iff_ne.mpr c6); (obtain rfl := Option.some.inj H); (have p337 : 0 ≤ (x5_1 : Int) := of_decide_eq_true (by first | (with_reducible assumption) | assumption)); (have q337 : x5_1 < (l0.length : Int) := of_decide_eq_true (by first | (with_reducible assumption) | assumption)); (obtain ⟨ad337, e337, hx337_0, hx337_1, hx337_2⟩ := at_T69 HR0.out x5_1 p337 q337); (cases e337); (replace p337 := eq_true p337); (replace q337 := eq_true q337); (have p338 : 0 ≤ (x5_1 : Int) := of_decide_eq_true (by first | (with_reducible assumption) | assumption)); (have q338 : x5_1 < (l0.length : Int) := of_decide_eq_true (by first | (with_reducible assumption) | assumption)); (obtain ⟨ad338, e338, hx338_0, hx338_1, hx338_2⟩ := at_T69 HR0.out x5_1 p338 q338); (obtain rfl : ad337 = ad338 := (by injection e338)); (replace p338 := eq_true p338); (replace q338 := eq_true q338); go_wp2; go_ret; (exact ⟨by first | rfl | (simp; done) | (simp [*]; done), by repeat (first | exact Drawn0.refl _ | apply Drawn0.step)⟩)
     ·(rw [if_neg c5] at H); (have c5b0 : (((rd_T69 l0 x5_1).f0) == x1_1) = false := beq_eq_false_iff_ne.mpr c5); (have c5b1 : (((rd_T69 l0 x5_1).f0) != x1_1) = true := bne_iff_ne.mpr c5); (obtain rfl := Option.some.inj H); (have p337 : 0 ≤ (x5_1 : Int) := of_decide_eq_true (by first | (with_reducible assumption) | assumption)); (have q337 : x5_1 < (l0.length : Int) := of_decide_eq_true (by first | (with_reducible assumption) | assumption)); (obtain ⟨ad337, e337, hx337_0, hx337_1, hx337_2⟩ := at_T69 HR0.out x5_1 p337 q337); (cases e337); (replace p337 := eq_true p337); (replace q337 := eq_true q337); go_wp2; go_ret; (exact ⟨by first | rfl | (simp; done) | (simp [*]; done), by repeat (first | exact Drawn0.refl _ | apply Drawn0.step)⟩)
    ·(rw [if_neg c4] at H); (exact absurd H (by simp))
   ·(rw [if_neg c3] at H); (have c3b0 : decide (x5_1 < (l0.length : Int)) = false := decide_eq_false c3); clear c3; (obtain rfl := Option.some.inj H); go_wp2; go_ret; (exact ⟨by first | rfl | (simp; done) | (simp [*]; done), by repeat (first | exact Drawn0.refl _ | apply Drawn0.step)⟩)
end Go.Proofs.Ytlbckkagjekhnaa.A

namespace Go.Proofs.Ytlbckkagjekhnaa.A
open Go.RowKit Go.Proofs.YtlbckkagjekhnaaW.PrintWords Go.Proofs.YtlbckkagjekhnaaW.PrintLast Go.Proofs.YtlbckkagjekhnaaW.PrintMore
attribute [local go_sem] max2_int min2_int max_two min_two max_three min_three max_four min_four   -- for this text's walks alone
set_option linter.unusedVariables false
set_option linter.unusedSimpArgs false
def laws_heldCubeSS.l0 : Nat → List (List (S69)) → Int → Int → Option (Int)
  | 0, _, _, _ => none
  | k + 1, x0, x1, x5 => if x5 < (x0.length : Int) then (if 0 ≤ x5 then ((laws_heldCubeS.f k (rd_L4 x0 x5) x1).bind fun t341 => (if t341 < 0 then (some (-1)) else (laws_heldCubeSS.l0 k x0 t341 (wrap64 (x5 + 1))))) else (none)) else (some x1)
def laws_heldCubeSS.f (k : Nat) (l0 : List (List (S69))) (a1 : Int) : Option (Int) := laws_heldCubeSS.l0 k l0 a1 0
set_option maxHeartbeats 8000000 in
set_option maxRecDepth 100000 in
theorem laws_heldCubeSS.calls (k : Nat) (A0 : Option Addr) (c0 : Nat) (l0 : List (List (S69))) (a1 : Int) (r : Int) (w : World) (hr0 : Kd.C (Kd.slice 69 k69) w A0 l0.length l0) (hc0 : l0.length ≤ c0) (h : laws_heldCubeSS.f k l0 a1 = some r) :
    Calls Try.prog 22 #[.slice A0 l0.length c0, .int .i64 a1] w fun e w' => e = .returned (.int .i64 r) ∧ Drawn0 w w' := by
 (have HR0 := A0_ hr0); (have HC0 := A0_ hc0); clear hr0 hc0; (have H : (laws_heldCubeSS.l0 k l0 a1 0) = some r := h); clear h; (have H' := A0_ H); clear H; (go_enter Try.func22, Try.ntmps22); go_wp2
 go_loopg [1, 5] k (fun kq v1 v5 w' => ∃ (x1_1 : Int) (x5_1 : Int), v1 = .int .i64 x1_1 ∧ v5 = .int .i64 x5_1 ∧ Aside0 (laws_heldCubeSS.l0 kq l0 x1_1 x5_1 = some r) ∧ Aside0 (kq ≤ k) ∧ Drawn0 w w')
 case atStart => exact ⟨(a1), (0), (by first | rfl | (simp; done) | (simp [*]; done)), (by first | rfl | (simp; done) | (simp [*]; done)), H', ⟨Nat.le_refl _⟩, by repeat (first | exact Drawn0.refl _ | apply Drawn0.step)⟩
 case round =>
  clear H'; (try clear c2); (try clear p2); (obtain ⟨x1_1, x5_1, rfl, rfl, HA, HK1, ⟨m1, rfl⟩⟩ := hrel)
  cases gk with
  | zero => exact absurd HA.out (by simp [laws_heldCubeSS.l0])
  | succ k1 =>
   (have H := HA.out); clear HA; (simp only [laws_heldCubeSS.l0] at H); (by_cases c3 : x5_1 < (l0.length : Int))
   ·(rw [if_pos c3] at H); (have c3b0 : decide (x5_1 < (l0.length : Int)) = true := decide_eq_true c3); clear c3; (by_cases c4 : 0 ≤ x5_1)
    ·(rw [if_pos c4] at H); (have c4b0 : decide (0 ≤ x5_1) = true := decide_eq_true c4); clear c4; (replace H := Option.bind_eq_some_iff.mp H); (obtain ⟨t341, A50, H⟩ := H); (try dsimp only at H); (have A5 := A0_ A50); clear A50; (have H0_ := A0_ H); clear H; (have p340 : 0 ≤ (x5_1 : Int) := of_decide_eq_true (by first | (with_reducible assumption) | assumption)); (have q340 : x5_1 < (l0.length : Int) := of_decide_eq_true (by first | (with_reducible assumption) | assumption)); (obtain ⟨ad340, A340_0, c340_0, e340, hx340_0, hl340_0, hi340_0⟩ := at_L4 HR0.out x5_1 p340 q340); (cases e340); (have HR340_0 := A0_ hi340_0); (have HC340_0 := A0_ hl340_0); clear hi340_0 hl340_0; (replace p340 := eq_true p340); (replace q340 := eq_true q340); (go_wp2_with (first | ((with_reducible refine gate_callee (f := 53) rfl ?_); refine goesL_ (some 17) rfl rfl Try.func53 (by kernel_rfl) rfl #[.slice A340_0 (rd_L4 l0 x5_1).length c340_0, .int .i64 x1_1] rfl (by (try simp only [List.map_toArray, List.map_cons, List.map_nil]); first | done | rfl | (simp only [List.length_drop, List.length_take]; rfl)) ?_; (with_reducible refine (laws_heldCubeS.calls k1 _ _ (rd_L4 l0 x5_1) x1_1 t341 _ ?side1 ?side2 A5.out).mono ?_); (case side1 => repeat (first | exact HR340_0.out | (with_reducible refine Kd.C_alloc ?_ _) | (with_reducible refine Kd.C_drewN ?_ _) | (with_reducible refine Kd.C_drew ?_))); (case side2 => exact HC340_0.out); rintro e w' ⟨rfl, ⟨nd, rfl⟩⟩; refine ⟨_, rfl, ?_⟩; refine Stop0.out ?_))); (refine Stop0.mk ?_); (have H := H0_.out); clear H0_; (by_cases c6 : t341 < 0)
     ·(rw [if_pos c6] at H); (have c6b0 : decide (t341 < 0) = true := decide_eq_true c6); clear c6; (obtain rfl := Option.some.inj H); go_wp2; go_ret; (exact ⟨by first | rfl | (simp; done) | (simp [*]; done), by repeat (first | exact Drawn0.refl _ | apply Drawn0.step)⟩)
     ·(rw [if_neg c6] at H); (have c6b0 : decide (t341 < 0) = false := decide_eq_false c6); clear c6; (have H' := A0_ H); clear H; go_wp2; (go_roundg k1)
      case measure => have := HK1.out; omega
      case rel => exact ⟨(t341), (wrap64 (x5_1 + 1)), (by first | rfl | (simp; done) | (simp [*]; done)), (by first | rfl | (simp; done) | (simp [*]; done)), H', ⟨by have := HK1.out; omega⟩, by repeat (first | exact Drawn0.refl _ | apply Drawn0.step)⟩
    ·(rw [if_neg c4] at H); (exact absurd H (by simp))
   ·(rw [if_neg c3] at H); (have c3b0 : decide (x5_1 < (l0.length : Int)) = false := decide_eq_false c3); clear c3; (obtain rfl := Option.some.inj H); go_wp2; go_ret; (exact ⟨by first | rfl | (simp; done) | (simp [*]; done), by repeat (first | exact Drawn0.refl _ | apply Drawn0.step)⟩)
end Go.Proofs.Ytlbckkagjekhnaa.A

/- What laws hold of rows of rows of cubes: sizes of offsets, held marks; the answer of RestOf is small. -/
namespace Go.Proofs.Ytlbckkagjekhnaa.A
open Go.RowKit Go.Proofs.YtlbckkagjekhnaaW.PrintWords Go.Proofs.YtlbckkagjekhnaaW.PrintLast Go.Proofs.YtlbckkagjekhnaaW.PrintMore
set_option linter.unusedVariables false
set_option linter.unusedSimpArgs false
theorem heldCubeS_ev (a : Int) (n : Nat) (h0 : 0 ≤ a) (hn : n ≤ 1048576) (h : a + 3 * (n : Int) ≤ 1000000000000) : Ev (fun k => laws_heldCubeS.f k (marksC a n) a) (a + 3 * (n : Int)) := by
  unfold laws_heldCubeS.f
  refine ev_at n (fun (s : Int) j => s = a + 3 * (j : Int)) (a + 3 * (n : Int)) (fun s i k => laws_heldCubeS.l0 k (marksC a n) s i) (fun s hi => ?_) (fun s j hj hi => ?_) a (by simp)
  · exact Ev.step (f := fun _ => some s) (fun k => by simp only [laws_heldCubeS.l0]; rw [if_neg (by rw [marksC_len]; omega)]) (by rw [hi]; exact Ev.now _)
  · refine ⟨s + 3, by omega, fun h2 => Ev.step (fun k => ?_) h2⟩
    have w1 : wrap64 (s + 1) = s + 1 := by unfold wrap64; omega
    have w2 : wrap64 (s + 1 + 1) = s + 2 := by unfold wrap64; omega
    have w3 : wrap64 (s + 2 + 1) = s + 3 := by unfold wrap64; omega
    have hg : rd_T69 (marksC a n) (j : Int) = ⟨s, s + 1, s + 2⟩ := by
      unfold rd_T69
      rw [getD_nat (marksC a n) _ j (by rw [marksC_len]; exact hj)]
      unfold marksC
      rw [List.getElem_map, List.getElem_range, hi]
    simp only [laws_heldCubeS.l0, hg, w1, w2, w3]
    rw [if_pos (by rw [marksC_len]; omega), if_pos (by omega)]
    simp only [if_true]
    rw [wrap_succ j (by omega)]
theorem heldCubeSS_ev (rows : List (List Cb)) (a : Int) (h0 : 0 ≤ a) (h : a + t3 rows ≤ 1000000000000) (hz : SzOk rows) : Ev (fun k => laws_heldCubeSS.f k (marksQ a rows) a) (a + t3 rows) := by
  unfold laws_heldCubeSS.f
  have hl := hz.len
  refine ev_at rows.length (fun (s : Int) j => s = a + t3 (rows.take j)) (a + t3 rows) (fun s i k => laws_heldCubeSS.l0 k (marksQ a rows) s i) (fun s hi => ?_) (fun s j hj hi => ?_) a (by simp [t3, tot2])
  · rw [List.take_length] at hi
    exact Ev.step (f := fun _ => some s) (fun k => by simp only [laws_heldCubeSS.l0]; rw [if_neg (by rw [marksQ_len]; omega)]) (by rw [hi]; exact Ev.now _)
  · have hn := t3_next rows j hj
    have hle := t3_le rows j
    have hle2 := t3_le rows (j + 1)
    refine ⟨s + 3 * (rows[j].length : Int), by omega, fun h2 => Ev.succ ?_⟩
    have hg : rd_L4 (marksQ a rows) (j : Int) = marksC s rows[j].length := by
      unfold rd_L4
      rw [getD_nat (marksQ a rows) _ j (by rw [marksQ_len]; exact hj), hi]
      have := marksQ_at rows a j hj
      exact (List.getElem?_eq_some_iff.1 this).2
    simp only [laws_heldCubeSS.l0, hg, show (j : Int) < ((marksQ a rows).length : Int) from (by rw [marksQ_len]; omega), show (0 : Int) ≤ (j : Int) from by omega, if_true]
    refine Ev.bind (heldCubeS_ev s rows[j].length (by omega) (hz.each _ (List.getElem_mem hj)) (by omega)) ?_
    rw [wrap_succ j (by omega)]
    simpa [show ¬ (s + 3 * (rows[j].length : Int) < 0) by omega] using h2
theorem szCubeS_eq (l : List Lb) (a : Int) (ha : 0 ≤ a ∧ a ≤ 1048576) (hl : l.length ≤ maxLen) : laws_szCubeS.f l a = some (if a - (l.length : Int) < 0 then -1 else a - (l.length : Int)) := by
  unfold laws_szCubeS.f
  have h1 : (maxLen : Int) ≤ 9223372036854775807 := by decide
  have hw : wrap64 (a - (l.length : Int)) = a - (l.length : Int) := by unfold wrap64; omega
  rw [hw]
  split <;> rfl
theorem tot2_le : ∀ (rows : List (List Cb)) (n : Nat), (∀ p ∈ rows, p.length ≤ n) → tot2 rows ≤ (n : Int) * (rows.length : Int)
  | [], n, _ => by simp [tot2]
  | r :: rs, n, h => by
    rw [tot2_cons]
    have h1 := tot2_le rs n (fun p hp => h p (List.mem_cons_of_mem _ hp))
    have h2 := h r List.mem_cons_self
    rw [List.length_cons, Int.natCast_add, Int.mul_add]
    omega
theorem small_ok {rows : List (List Cb)} (h1 : rows.length ≤ 8) (h2 : ∀ p ∈ rows, p.length ≤ 64) : SzOk rows := by
  refine ⟨by omega, fun r hr => by have := h2 r hr; omega, ?_⟩
  have := tot2_le rows 64 h2
  have h3 : (64 : Int) * (rows.length : Int) ≤ 512 := by omega
  omega
theorem restR_ok (parts : List (List Cb)) (offs : List Cb) (part : Int) : SzOk (restR parts offs part).1 := by
  unfold restR
  by_cases c : codeP parts offs = 0
  · rw [if_pos c]
    by_cases d : 0 ≤ part ∧ part < parts.length
    · rw [if_pos d]
      have hr := asm_rows (code_0 c).1
      have ho := allMoved_ok parts offs part.toNat hr.1 hr.2 (by omega)
      show SzOk (backP _)
      refine small_ok ?_ (fun p hp => ?_)
      · unfold backP
        rw [List.length_map]
        exact ho.2.1
      · unfold backP at hp
        obtain ⟨q, hq, rfl⟩ := List.mem_map.1 hp
        unfold downP
        rw [List.length_map]
        exact (ho.2.2 q hq).2
    · rw [if_neg d]
      exact small_ok (by simp) (by simp)
  · rw [if_neg c]
    exact small_ok (by simp) (by simp)
end Go.Proofs.Ytlbckkagjekhnaa.A

/- The law FnExactRestOf, walked as one straight line. -/
namespace Go.Proofs.Ytlbckkagjekhnaa.A
open Go.RowKit Go.Proofs.YtlbckkagjekhnaaW.PrintWords Go.Proofs.YtlbckkagjekhnaaW.PrintLast Go.Proofs.YtlbckkagjekhnaaW.PrintMore
set_option linter.unusedVariables false
set_option linter.unusedSimpArgs false
def lawRo.T14 : Bool × List (List Nat × List Nat) := (true, [([], []), ([], []), ([1], [1]), ([0, 2, 2], [0, 2]), ([3], [3])])
def lawRo.B14 : List Nat := [0, 0, 2, 7, 15]
theorem lawRo.tab14 : rtab .any (opsOf Try.f3 14) = lawRo.T14 := by kernel_rfl
theorem lawRo.bits14 : waitsOk lawRo.T14.2 lawRo.B14 = true := by kernel_rfl
set_option maxHeartbeats 8000000 in
set_option maxRecDepth 100000 in
theorem lawRo_good (A0 : Option Addr) (c0 : Nat) (l : List (List Lb)) (B0 : Option Addr) (d0 : Nat) (lo : List Lb) (part : Int) (w : World) (hr : Kd.C (Kd.slice 71 k71) w A0 l.length l) (hc : l.length ≤ c0) (hro : Kd.C k71 w B0 lo.length lo) (hco : lo.length ≤ d0) (KK : Nat) (s s2 : Int) (hsz : laws_szAssembly.f KK l 1048576 = some s) (hpos : ¬ s < 0) (hsc : laws_szCubeS.f lo s = some s2) (hpos2 : ¬ s2 < 0) (P : List (List Cb)) (hz : SzOk P) (hto : laws_toAssembly.f KK l = some P) (heq : laws_eqAssembly.f KK P P = some true)
    (O : List Cb) (hol : O.length ≤ 1048576) (htc : laws_toCubeS.f KK lo = some O) (hec : laws_eqCubeS.f KK O O = some true) (X : List (List Cb)) (cd : Int) (hX : restR P O part = (X, cd)) (hxz : SzOk X) (hex : laws_eqCubeSS.f KK X X = some true) (hmk : laws_markCubeS.f KK O (1 + t3 P) = some (1 + t3 P + 3 * (O.length : Int), marksC (1 + t3 P) O.length)) (hhd : laws_heldCubeSS.f KK (marksQ 1 X) 1 = some (1 + t3 X)) :
    Calls Try.prog 3 #[.agg #[.slice A0 l.length c0], .slice B0 lo.length d0, .int .i64 part] w fun e w' => e = .returned (.bool true) ∧ Below w.heap.size w w' := by
  have hu24 := Try.underlying24
  have hu32 := Try.underlying32
  have HR := A0_ hr
  have HC := A0_ hc
  have HRO := A0_ hro
  have HCO := A0_ hco
  have HSZ := A0_ hsz
  have HSC := A0_ hsc
  have HTO1 := A0_ hto
  have HTO2 := A0_ hto
  have HTO3 := A0_ hto
  have HTO4 := A0_ hto
  have HTC1 := A0_ htc
  have HTC2 := A0_ htc
  have HTC3 := A0_ htc
  have HTC4 := A0_ htc
  have HEQ := A0_ heq
  have HEC := A0_ hec
  have HEX1 := A0_ hex
  have HEX2 := A0_ hex
  have HEX3 := A0_ hex
  have HMK := A0_ hmk
  have HHD1 := A0_ hhd
  have HHD2 := A0_ hhd
  have HZ := A0_ hz
  have HXZ := A0_ hxz
  have hp0 : decide (s < 0) = false := decide_eq_false hpos
  have hp1 : decide (s2 < 0) = false := decide_eq_false hpos2
  have ht := t3_le P P.length
  rw [List.take_length] at ht
  have hx := t3_le X X.length
  rw [List.take_length] at hx
  have hp2 : decide (1 + t3 P + 3 * (O.length : Int) < 0) = false := decide_eq_false (by omega)
  have hp3 : decide (1 + t3 X < 0) = false := decide_eq_false (by omega)
  have HT3 := A0_ (show 1 + t3 P ≤ 1000000000000 by have := hz.tot; unfold t3; omega)
  have HX3 := A0_ (show 1 + t3 X ≤ 1000000000000 by have := hxz.tot; unfold t3; omega)
  have HS := A0_ (Sp.start w)
  have HSP := A0_ (fun A c B d w1 h1 h2 h3 h4 => sRest_calls A c P B d O part w1 h1 h2 hz h3 h4)
  have HIM1 := A0_ (fun A c B d w1 h1 h2 h3 h4 => iRest_calls A c P B d O part w1 h1 h2 hz h3 h4)
  rw [hX] at HSP HIM1
  have HIM2 := HIM1
  clear hr hc hro hco hsz hsc hto htc heq hec hex hmk hhd hz hxz hX hol ht hx hpos hpos2
  go_enter Try.func3, Try.ntmps3
  go_wp2_with (first
    | ((with_reducible refine gate_dst (N := 3) rfl ?_); go_loud (refine box_event ?hg (N := 3) ?hd (cs := #[.slice A0 l.length c0]) (t := 24) ?hr ?_; (case hd => rfl); (case hg => rfl); (case hr => first | (go_simp; done) | (go_simp; rfl)); intro gb hgb_ wb_ hcb_ hbb_; have HS_ := A0_ (Sp.boxed HS.out hgb_ hcb_ hbb_); clear HS; have HS := HS_; clear HS_; clear hgb_ hcb_ hbb_; have hb0 := (blk_cell (Sp.blk HS.out (i := 0) rfl).1 0).trans rfl))
    | (go_at_call 10; go_loud (refine (laws_szAssembly.calls KK A0 c0 l 1048576 s _ (Kd.C_below HR.out HS.out.below) HC.out HSZ.out).mono ?_; rintro e wc_ ⟨rfl, hb_⟩; have HS_ := A0_ (Sp.far HS.out hb_); clear HS; have HS := HS_; clear HS_; clear hb_ hb0 HSZ; have hb0 := (blk_cell (Sp.blk HS.out (i := 0) rfl).1 0).trans rfl))
    | (go_at_call 11; go_loud (refine (laws_szCubeS.calls B0 d0 lo s s2 _ (Kd.C_below HRO.out HS.out.below) HCO.out HSC.out).mono ?_; rintro e wc_ ⟨rfl, hb_⟩; have HS_ := A0_ (Sp.far HS.out hb_.below); clear HS; have HS := HS_; clear HS_; clear hb_ hb0 HSC; have hb0 := (blk_cell (Sp.blk HS.out (i := 0) rfl).1 0).trans rfl))
    | (go_at_call 13; go_loud (refine (laws_toAssembly.calls KK A0 c0 l P _ (Kd.C_below HR.out HS.out.below) HC.out HTO1.out).mono ?_; rintro e wc_ ⟨v_, rfl, hs_, hb_⟩; have HS_ := A0_ (Sp.madeS HS.out hb_ hs_); clear HS; have HS := HS_; clear HS_; clear hb_ hs_ hb0 HTO1; obtain ⟨A1, c1, ev_⟩ := Sp.sliceS HS.out (i := 0) rfl; subst ev_))
    | (go_at_call 14; go_loud (refine (laws_toCubeS.calls KK B0 d0 lo O _ (Kd.C_below HRO.out HS.out.below) HCO.out HTC1.out).mono ?_; rintro e wc_ ⟨v_, rfl, hr_, hb_⟩; have HS_ := A0_ (Sp.made' HS.out hb_ hr_); clear HS; have HS := HS_; clear HS_; clear hb_ hr_ HTC1; obtain ⟨B1, d1, ev_⟩ := Sp.slice HS.out (i := 0) rfl; subst ev_))
    | (go_at_call 12; go_loud (refine (HSP.out A1 c1 B1 d1 _ (Sp.readsS HS.out (i := 1) rfl).2.2 (Sp.readsS HS.out (i := 1) rfl).2.1 (Sp.reads HS.out (i := 0) rfl).2.2 (Sp.reads HS.out (i := 0) rfl).2.1).mono ?_; rintro e wc_ ⟨v_, rfl, hs_, hb_⟩; have HS_ := A0_ (Sp.madeS HS.out hb_ hs_); clear HS; have HS := HS_; clear HS_; clear hb_ hs_ HSP; obtain ⟨A2, c2, ev_⟩ := Sp.sliceS HS.out (i := 0) rfl; subst ev_; have hb0 := (blk_cell (Sp.blk HS.out (i := 3) rfl).1 0).trans rfl))
    | (go_at_call 13; go_loud (refine (laws_toAssembly.calls KK A0 c0 l P _ (Kd.C_below HR.out HS.out.below) HC.out HTO2.out).mono ?_; rintro e wc_ ⟨v_, rfl, hs_, hb_⟩; have HS_ := A0_ (Sp.madeS HS.out hb_ hs_); clear HS; have HS := HS_; clear HS_; clear hb_ hs_ hb0 HTO2; obtain ⟨A3, c3, ev_⟩ := Sp.sliceS HS.out (i := 0) rfl; subst ev_))
    | (go_at_call 14; go_loud (obtain ⟨gx, hg_⟩ : ∃ g_, g_ = (wc_).heap.size := ⟨_, rfl⟩; obtain ⟨wx, hw_⟩ : ∃ w_, w_ = (wc_).alloc (.cells #[.slice A3 P.length c3] 32) := ⟨_, rfl⟩; (try rw [← hw_]); (try rw [← hg_]); have HS_ := A0_ (Sp.box HS.out #[.slice A3 P.length c3] 32); rw [← hw_, ← hg_] at HS_; clear HS; have HS := HS_; clear HS_ hw_ hg_; refine (laws_toCubeS.calls KK B0 d0 lo O _ (Kd.C_below HRO.out HS.out.below) HCO.out HTC2.out).mono ?_; rintro e wo_ ⟨v_, rfl, hr_, hb_⟩; have HS_ := A0_ (Sp.made' HS.out hb_ hr_); clear HS; have HS := HS_; clear HS_; clear hb_ hr_ HTC2; obtain ⟨B2, d2, ev_⟩ := Sp.slice HS.out (i := 0) rfl; subst ev_; have hx0 := (blk_cell (Sp.blk HS.out (i := 1) rfl).1 0).trans rfl))
    | (go_at_call 15; go_loud (refine (HIM1.out A3 c3 B2 d2 _ (Sp.readsS HS.out (i := 2) rfl).2.2 (Sp.readsS HS.out (i := 2) rfl).2.1 (Sp.reads HS.out (i := 0) rfl).2.2 (Sp.reads HS.out (i := 0) rfl).2.1).mono ?_; rintro e wc_ ⟨v_, rfl, hs_, hb_⟩; have HS_ := A0_ (Sp.madeS HS.out hb_ hs_); clear HS; have HS := HS_; clear HS_; clear hb_ hs_ hx0 HIM1; obtain ⟨A4, c4, ev_⟩ := Sp.sliceS HS.out (i := 0) rfl; subst ev_))
    | (go_at_call 16; go_loud (refine (laws_eqCubeSS.calls KK A4 c4 X A2 c2 X true _ (Sp.readsS HS.out (i := 0) rfl).2.2 (Sp.readsS HS.out (i := 0) rfl).2.1 (Sp.readsS HS.out (i := 4) rfl).2.2 (Sp.readsS HS.out (i := 4) rfl).2.1 HEX1.out).mono ?_; rintro e wc_ ⟨rfl, hd_⟩; have HS_ := A0_ (Sp.far HS.out hd_); clear HS; have HS := HS_; clear HS_; clear hd_ HEX1)))
  have HS_ := A0_ (show Sp w ([Res.rowS kP 34 w.heap.size (.slice A4 X.length c4) X, Res.row kC 69 w.heap.size (.slice B2 O.length d2) O, Res.blk gx #[.slice A3 P.length c3] 32, Res.rowS kP 34 w.heap.size (.slice A3 P.length c3) P, Res.rowS kP 34 w.heap.size (.slice A2 X.length c2) X, Res.row kC 69 w.heap.size (.slice B1 O.length d1) O, Res.rowS kP 34 w.heap.size (.slice A1 P.length c1) P, Res.blk gb #[.slice A0 l.length c0] 24] ++ ([] : List Res)) wc_.drew from Sp.drew HS.out)
  clear HS
  have HS := HS_
  clear HS_
  refine start_ (n := 5) (S := fun w' => w'.cell? ⟨gx, 0, none⟩ = some (.slice A3 P.length c3) ∧ w'.cell? ⟨gb, 0, none⟩ = some (.slice A0 l.length c0)) (ds := []) #[false, false, false, false, false] (by kernel_rfl) rfl rfl (⟨(blk_cell (Sp.blk HS.out (i := 2) rfl).1 0).trans rfl, (blk_cell (Sp.blk HS.out (i := 7) rfl).1 0).trans rfl⟩) (fun hHeld => ?_)
  refine with_tabW lawRo.tab14 lawRo.bits14 (fun HT_ HW_ => ?_)
  generalize wc_.drew = wD at HS hHeld ⊢
  refine tk_ 0 (some 58) ?_
  refine tk_ 1 (some 59) ?_
  refine o1_ 2 (some 60) (fun K hK => ?_)
  refine goes_ Try.func13 (by kernel_rfl) rfl #[.agg #[.slice A0 l.length c0]] (by rfl) rfl rfl (by (try simp only [List.map_toArray, List.map_cons, List.map_nil]); first | done | rfl | (simp only [List.length_drop, List.length_take]; rfl)) ?_
  refine (laws_toAssembly.calls KK A0 c0 l P _ (Kd.C_below HR.out HS.out.below) HC.out HTO3.out).mono ?_
  rintro e w7 ⟨v7, rfl, hs_, hb_⟩
  refine ⟨_, rfl, ?_⟩
  have HS_ := A0_ (Sp.madeS HS.out hb_ hs_)
  clear HS
  have HS := HS_
  clear HS_
  clear hb_ hs_
  obtain ⟨A7, c7, ev_⟩ := Sp.sliceS HS.out (i := 0) rfl
  subst ev_
  refine hK.out _ _ (⟨(blk_cell (Sp.blk HS.out (i := 3) rfl).1 0).trans rfl, (blk_cell (Sp.blk HS.out (i := 8) rfl).1 0).trans rfl⟩) (fun hHeld => ?_)
  clear hK K
  refine nm_ (some 60) ?_
  refine o1_ 3 (some 61) (fun K hK => ?_)
  refine goes_ Try.func17 (by kernel_rfl) rfl #[.agg #[.slice A3 P.length c3], .agg #[.slice A7 P.length c7]] (by rfl) rfl rfl (by (try simp only [List.map_toArray, List.map_cons, List.map_nil]); first | done | rfl | (simp only [List.length_drop, List.length_take]; rfl)) ?_
  refine (laws_eqAssembly.calls KK A3 c3 P A7 c7 P true _ (Sp.readsS HS.out (i := 4) rfl).2.2 (Sp.readsS HS.out (i := 4) rfl).2.1 (Sp.readsS HS.out (i := 0) rfl).2.2 (Sp.readsS HS.out (i := 0) rfl).2.1 HEQ.out).mono ?_
  rintro e w8 ⟨rfl, hb_⟩
  refine ⟨_, rfl, ?_⟩
  have HS_ := A0_ (Sp.far HS.out hb_)
  clear HS
  have HS := HS_
  clear HS_
  clear hb_
  refine hK.out _ _ (⟨(blk_cell (Sp.blk HS.out (i := 3) rfl).1 0).trans rfl, (blk_cell (Sp.blk HS.out (i := 8) rfl).1 0).trans rfl⟩) (fun hHeld => ?_)
  clear hK K
  refine nm_ (some 61) ?_
  refine on_ 4 (some 62) ?_
  refine dn_ ?_
  have HS_ := A0_ (Sp.arr (pre := [Res.rowS kP 34 w.heap.size (.slice A7 P.length c7) P, Res.rowS kP 34 w.heap.size (.slice A4 X.length c4) X, Res.row kC 69 w.heap.size (.slice B2 O.length d2) O, Res.blk gx #[.slice A3 P.length c3] 32, Res.rowS kP 34 w.heap.size (.slice A3 P.length c3) P, Res.rowS kP 34 w.heap.size (.slice A2 X.length c2) X, Res.row kC 69 w.heap.size (.slice B1 O.length d1) O, Res.rowS kP 34 w.heap.size (.slice A1 P.length c1) P, Res.blk gb #[.slice A0 l.length c0] 24]) (pre' := [Res.rowS kP 34 w.heap.size (.slice A4 X.length c4) X, Res.rowS kP 34 w.heap.size (.slice A3 P.length c3) P, Res.row kC 69 w.heap.size (.slice B2 O.length d2) O, Res.rowS kP 34 w.heap.size (.slice A2 X.length c2) X, Res.blk gb #[.slice A0 l.length c0] 24, Res.blk gx #[.slice A3 P.length c3] 32, Res.row kC 69 w.heap.size (.slice B1 O.length d1) O, Res.rowS kP 34 w.heap.size (.slice A1 P.length c1) P, Res.rowS kP 34 w.heap.size (.slice A7 P.length c7) P]) (rest := ([] : List Res)) [1, 4, 2, 5, 8, 3, 6, 7, 0] HS.out rfl rfl)
  clear HS
  have HS := HS_
  clear HS_
  have hx0 := (blk_cell (Sp.blk HS.out (i := 5) rfl).1 0).trans rfl
  go_wp2_with (first
    | (go_at_call 14; go_loud (refine (laws_toCubeS.calls KK B0 d0 lo O _ (Kd.C_below HRO.out HS.out.below) HCO.out HTC3.out).mono ?_; rintro e wc_ ⟨v_, rfl, hr_, hb_⟩; have HS_ := A0_ (Sp.made' HS.out hb_ hr_); clear HS; have HS := HS_; clear HS_; clear hb_ hr_ hx0 HTC3; obtain ⟨B3, d3, ev_⟩ := Sp.slice HS.out (i := 0) rfl; subst ev_))
    | (go_at_call 18; go_loud (refine (laws_eqCubeS.calls KK B2 d2 O B3 d3 O true _ (Sp.reads HS.out (i := 3) rfl).2.2 (Sp.reads HS.out (i := 3) rfl).2.1 (Sp.reads HS.out (i := 0) rfl).2.2 (Sp.reads HS.out (i := 0) rfl).2.1 HEC.out).mono ?_; rintro e wc_ ⟨rfl, hd_⟩; have HS_ := A0_ (Sp.far HS.out hd_); clear HS; have HS := HS_; clear HS_; clear hd_ HEC; have hx0 := (blk_cell (Sp.blk HS.out (i := 6) rfl).1 0).trans rfl))
    | (go_at_call 19; go_loud (obtain ⟨fp_, hs_, hc_⟩ := Sp.markS HS.out (i := 2) rfl; refine (laws_markAssembly.calls2 P fp_ A3 P.length c3 1 w _ HS.out.below hs_ (by decide) HT3.out HZ.out.len HZ.out.each).mono ?_; rintro e w9 ⟨rfl, rows', hs2, hb, hk⟩; have HS_ := A0_ (hc_ _ _ hs2 hb hk); clear HS; have HS := HS_; clear HS_; clear hs_ hc_ hs2 hb hk hx0))
    | (go_at_call 20; go_loud (obtain ⟨fp_, hr_, hc_⟩ := Sp.markR HS.out (i := 3) rfl; refine (laws_markCubeS.calls KK fp_ _ O (1 + t3 P) (1 + t3 P + 3 * (O.length : Int)) (marksC (1 + t3 P) O.length) w _ HS.out.below hr_ HMK.out).mono ?_; rintro e w11 ⟨rfl, ho, hb, hk⟩; have HS_ := A0_ (hc_ _ _ ho hb hk); clear HS; have HS := HS_; clear HS_; clear hr_ hc_ ho hb hk))
    | (go_at_call 16; go_loud (refine (laws_eqCubeSS.calls KK A4 c4 X A2 c2 X true _ (Sp.readsS HS.out (i := 1) rfl).2.2 (Sp.readsS HS.out (i := 1) rfl).2.1 (Sp.readsS HS.out (i := 4) rfl).2.2 (Sp.readsS HS.out (i := 4) rfl).2.1 HEX2.out).mono ?_; rintro e wc_ ⟨rfl, hd_⟩; have HS_ := A0_ (Sp.far HS.out hd_); clear HS; have HS := HS_; clear HS_; clear hd_ HEX2))
    | (go_at_call 21; go_loud (obtain ⟨fp_, hs_, hc_⟩ := Sp.markS HS.out (i := 1) rfl; refine (laws_markCubeSS.calls2 X fp_ _ 1 w _ HS.out.below hs_ (by decide) HX3.out HXZ.out.len HXZ.out.each).mono ?_; rintro e w12 ⟨rfl, hs2, hb, hk⟩; have HS_ := A0_ (hc_ _ _ hs2 hb hk); clear HS; have HS := HS_; clear HS_; clear hs_ hc_ hs2 hb hk))
    | (go_at_call 22; go_loud (have hh_ := laws_heldCubeSS.calls KK A4 c4 (marksQ 1 X) 1 (1 + t3 X) _ (Sp.readsS HS.out (i := 1) rfl).2.2 (by rw [marksQ_len]; exact (Sp.readsS HS.out (i := 1) rfl).2.1) HHD1.out; rw [marksQ_len] at hh_; refine hh_.mono ?_; rintro e w13 ⟨rfl, hd_⟩; have HS_ := A0_ (Sp.far HS.out hd_.below); clear HS; have HS := HS_; clear HS_; clear hd_ hh_ HHD1; have hb0 := (blk_cell (Sp.blk HS.out (i := 5) rfl).1 0).trans rfl))
    | (go_at_call 13; go_loud (refine (laws_toAssembly.calls KK A0 c0 l P _ (Kd.C_below HR.out HS.out.below) HC.out HTO4.out).mono ?_; rintro e wc_ ⟨v_, rfl, hs_, hb_⟩; have HS_ := A0_ (Sp.madeS HS.out hb_ hs_); clear HS; have HS := HS_; clear HS_; clear hb_ hs_ hb0 HTO4; obtain ⟨A13, c13, ev_⟩ := Sp.sliceS HS.out (i := 0) rfl; subst ev_))
    | (go_at_call 14; go_loud (refine (laws_toCubeS.calls KK B0 d0 lo O _ (Kd.C_below HRO.out HS.out.below) HCO.out HTC4.out).mono ?_; rintro e wc_ ⟨v_, rfl, hr_, hb_⟩; have HS_ := A0_ (Sp.made' HS.out hb_ hr_); clear HS; have HS := HS_; clear HS_; clear hb_ hr_ HTC4; obtain ⟨B4, d4, ev_⟩ := Sp.slice HS.out (i := 0) rfl; subst ev_))
    | (go_at_call 15; go_loud (refine (HIM2.out A13 c13 B4 d4 _ (Sp.readsS HS.out (i := 1) rfl).2.2 (Sp.readsS HS.out (i := 1) rfl).2.1 (Sp.reads HS.out (i := 0) rfl).2.2 (Sp.reads HS.out (i := 0) rfl).2.1).mono ?_; rintro e wc_ ⟨v_, rfl, hs_, hb_⟩; have HS_ := A0_ (Sp.madeS HS.out hb_ hs_); clear HS; have HS := HS_; clear HS_; clear hb_ hs_ HIM2; obtain ⟨A14, c14, ev_⟩ := Sp.sliceS HS.out (i := 0) rfl; subst ev_))
    | (go_at_call 16; go_loud (refine (laws_eqCubeSS.calls KK A14 c14 X A2 c2 X true _ (Sp.readsS HS.out (i := 0) rfl).2.2 (Sp.readsS HS.out (i := 0) rfl).2.1 (Sp.readsS HS.out (i := 7) rfl).2.2 (Sp.readsS HS.out (i := 7) rfl).2.1 HEX3.out).mono ?_; rintro e wc_ ⟨rfl, hd_⟩; have HS_ := A0_ (Sp.far HS.out hd_); clear HS; have HS := HS_; clear HS_; clear hd_ HEX3))
    | (go_at_call 22; go_loud (have hh_ := laws_heldCubeSS.calls KK A4 c4 (marksQ 1 X) 1 (1 + t3 X) _ (Sp.readsS HS.out (i := 4) rfl).2.2 (by rw [marksQ_len]; exact (Sp.readsS HS.out (i := 4) rfl).2.1) HHD2.out; rw [marksQ_len] at hh_; refine hh_.mono ?_; rintro e w16 ⟨rfl, hd_⟩; have HS_ := A0_ (Sp.far HS.out hd_.below); clear HS; have HS := HS_; clear HS_; clear hd_ hh_ HHD2)))
  go_ret
  exact ⟨rfl, HS.out.below⟩
set_option maxHeartbeats 1000000 in
set_option maxRecDepth 100000 in
theorem lawRo_bad (A0 : Option Addr) (c0 : Nat) (l : List (List Lb)) (B0 : Option Addr) (d0 : Nat) (lo : List Lb) (part : Int) (w : World) (hr : Kd.C (Kd.slice 71 k71) w A0 l.length l) (hc : l.length ≤ c0) (KK : Nat) (hsz : laws_szAssembly.f KK l 1048576 = some (-1)) :
    Calls Try.prog 3 #[.agg #[.slice A0 l.length c0], .slice B0 lo.length d0, .int .i64 part] w fun e w' => e = .returned (.bool true) ∧ Below w.heap.size w w' := by
  have hu24 := Try.underlying24
  have HR := A0_ hr
  have HC := A0_ hc
  have HSZ := A0_ hsz
  have HS := A0_ (Sp.start w)
  clear hr hc hsz
  go_enter Try.func3, Try.ntmps3
  go_wp2_with (first
    | ((with_reducible refine gate_dst (N := 3) rfl ?_); go_loud (refine box_event ?hg (N := 3) ?hd (cs := #[.slice A0 l.length c0]) (t := 24) ?hr ?_; (case hd => rfl); (case hg => rfl); (case hr => first | (go_simp; done) | (go_simp; rfl)); intro gb hgb_ wb_ hcb_ hbb_; have HS_ := A0_ (Sp.boxed HS.out hgb_ hcb_ hbb_); clear HS; have HS := HS_; clear HS_; clear hgb_ hcb_ hbb_; have hb0 := (blk_cell (Sp.blk HS.out (i := 0) rfl).1 0).trans rfl))
    | (go_at_call 10; go_loud (refine (laws_szAssembly.calls KK A0 c0 l 1048576 (-1) _ (Kd.C_below HR.out HS.out.below) HC.out HSZ.out).mono ?_; rintro e wc_ ⟨rfl, hb_⟩; have HS_ := A0_ (Sp.far HS.out hb_); clear HS; have HS := HS_; clear HS_; clear hb_ hb0 HSZ)))
  go_ret
  exact ⟨rfl, HS.out.below⟩
set_option maxHeartbeats 1000000 in
set_option maxRecDepth 100000 in
theorem lawRo_bad2 (A0 : Option Addr) (c0 : Nat) (l : List (List Lb)) (B0 : Option Addr) (d0 : Nat) (lo : List Lb) (part : Int) (w : World) (hr : Kd.C (Kd.slice 71 k71) w A0 l.length l) (hc : l.length ≤ c0) (hro : Kd.C k71 w B0 lo.length lo) (hco : lo.length ≤ d0) (KK : Nat) (s : Int) (hsz : laws_szAssembly.f KK l 1048576 = some s) (hpos : ¬ s < 0) (hsc : laws_szCubeS.f lo s = some (-1)) :
    Calls Try.prog 3 #[.agg #[.slice A0 l.length c0], .slice B0 lo.length d0, .int .i64 part] w fun e w' => e = .returned (.bool true) ∧ Below w.heap.size w w' := by
  have hu24 := Try.underlying24
  have HR := A0_ hr
  have HC := A0_ hc
  have HRO := A0_ hro
  have HCO := A0_ hco
  have HSZ := A0_ hsz
  have HSC := A0_ hsc
  have HS := A0_ (Sp.start w)
  have hp0 : decide (s < 0) = false := decide_eq_false hpos
  clear hr hc hsz hro hco hsc hpos
  go_enter Try.func3, Try.ntmps3
  go_wp2_with (first
    | ((with_reducible refine gate_dst (N := 3) rfl ?_); go_loud (refine box_event ?hg (N := 3) ?hd (cs := #[.slice A0 l.length c0]) (t := 24) ?hr ?_; (case hd => rfl); (case hg => rfl); (case hr => first | (go_simp; done) | (go_simp; rfl)); intro gb hgb_ wb_ hcb_ hbb_; have HS_ := A0_ (Sp.boxed HS.out hgb_ hcb_ hbb_); clear HS; have HS := HS_; clear HS_; clear hgb_ hcb_ hbb_; have hb0 := (blk_cell (Sp.blk HS.out (i := 0) rfl).1 0).trans rfl))
    | (go_at_call 10; go_loud (refine (laws_szAssembly.calls KK A0 c0 l 1048576 s _ (Kd.C_below HR.out HS.out.below) HC.out HSZ.out).mono ?_; rintro e wc_ ⟨rfl, hb_⟩; have HS_ := A0_ (Sp.far HS.out hb_); clear HS; have HS := HS_; clear HS_; clear hb_ hb0 HSZ))
    | (go_at_call 11; go_loud (refine (laws_szCubeS.calls B0 d0 lo s (-1) _ (Kd.C_below HRO.out HS.out.below) HCO.out HSC.out).mono ?_; rintro e wc_ ⟨rfl, hb_⟩; have HS_ := A0_ (Sp.far HS.out hb_.below); clear HS; have HS := HS_; clear HS_; clear hb_ HSC)))
  go_ret
  exact ⟨rfl, HS.out.below⟩
open Classical in
/-- What the law answers, where its input is of a size that a machine has. -/
noncomputable def laws_FnExactRestOf.f (k : Nat) (l : List (List Lb)) (lo : List Lb) (part : Int) : Option Bool := if l.length ≤ maxLen ∧ (∀ r ∈ l, r.length ≤ maxLen) ∧ lo.length ≤ maxLen then some true else none
theorem laws_FnExactRestOf.calls (k : Nat) (A0_0 : Option Addr) (c0_0 : Nat) (l0_0 : List (List Lb)) (A1 : Option Addr) (c1 : Nat) (l1 : List Lb) (a2 : Int) (r : Bool) (w : World) (hr0_0 : Kd.C (Kd.slice 71 k71) w A0_0 l0_0.length l0_0) (hc0_0 : l0_0.length ≤ c0_0) (hr1 : Kd.C k71 w A1 l1.length l1) (hc1 : l1.length ≤ c1) (h : laws_FnExactRestOf.f k l0_0 l1 a2 = some r) :
    Calls Try.prog 3 #[.agg #[.slice A0_0 l0_0.length c0_0], .slice A1 l1.length c1, .int .i64 a2] w fun e w' => e = .returned (.bool r) ∧ Below w.heap.size w w' := by
  unfold laws_FnExactRestOf.f at h
  split at h
  case isFalse => cases h
  rename_i hok
  obtain rfl := Option.some.inj h
  obtain ⟨K1, h1⟩ := szAssembly_ev l0_0 1048576 (by omega) hok.1 hok.2.1
  by_cases c : szL l0_0 1048576 < 0
  · rw [if_pos c] at h1
    exact lawRo_bad A0_0 c0_0 l0_0 A1 c1 l1 a2 w hr0_0 hc0_0 K1 (h1 K1 (Nat.le_refl _))
  · rw [if_neg c] at h1
    obtain ⟨hsz, hz⟩ := szL_eq l0_0 1048576 (by omega) c
    have hsc := szCubeS_eq l1 (szL l0_0 1048576) (by have := tot2_nn l0_0; omega) hok.2.2
    by_cases d : szL l0_0 1048576 - (l1.length : Int) < 0
    · rw [if_pos d] at hsc
      exact lawRo_bad2 A0_0 c0_0 l0_0 A1 c1 l1 a2 w hr0_0 hc0_0 hr1 hc1 K1 _ (h1 K1 (Nat.le_refl _)) c hsc
    · rw [if_neg d] at hsc
      have hl1 : l1.length ≤ 1048576 := by have := tot2_nn l0_0; omega
      obtain ⟨K2, h2⟩ := toAssembly_ev l0_0 hz
      obtain ⟨K3, h3⟩ := eqAssembly_ev (toP l0_0) (toP_ok hz)
      obtain ⟨K4, h4⟩ := toCubeS_ev l1 hl1
      obtain ⟨O, hO⟩ : ∃ O, O = l1.map toC := ⟨_, rfl⟩
      have hol : O.length ≤ 1048576 := by rw [hO, List.length_map]; exact hl1
      rw [← hO] at h4
      obtain ⟨K5, h5⟩ := eqCubeS_ev O hol
      obtain ⟨X, cd, hX⟩ : ∃ X cd, restR (toP l0_0) O a2 = (X, cd) := ⟨_, _, rfl⟩
      have hxz : SzOk X := by have := restR_ok (toP l0_0) O a2; rw [hX] at this; exact this
      obtain ⟨K6, h6⟩ := eqCubeSS_ev X hxz
      have ht := (toP_ok hz).tot
      have htn := tot2_nn (toP l0_0)
      have hxt := hxz.tot
      obtain ⟨K7, h7⟩ := markCubeS_ev O (1 + t3 (toP l0_0)) hol (by unfold t3; omega) (by unfold t3; omega)
      obtain ⟨K8, h8⟩ := heldCubeSS_ev X 1 (by decide) (by unfold t3; omega) hxz
      exact lawRo_good A0_0 c0_0 l0_0 A1 c1 l1 a2 w hr0_0 hc0_0 hr1 hc1 (K1 + K2 + K3 + K4 + K5 + K6 + K7 + K8) _ _ (h1 _ (by omega)) c hsc d (toP l0_0) (toP_ok hz) (h2 _ (by omega)) (h3 _ (by omega)) O hol (h4 _ (by omega)) (h5 _ (by omega)) X cd hX hxz (h6 _ (by omega)) (h7 _ (by omega)) (h8 _ (by omega))
end Go.Proofs.Ytlbckkagjekhnaa.A

/- The plain statement of the law FnExactRestOf, over numbers and lists alone, and how its arguments are opened. -/
namespace Go.Proofs.Ytlbckkagjekhnaa.A
open Go.RowKit Go.Proofs.YtlbckkagjekhnaaW.PrintWords Go.Proofs.YtlbckkagjekhnaaW.PrintLast Go.Proofs.YtlbckkagjekhnaaW.PrintMore
def ok71 (x : S71) : Prop := (Go.Proofs.Ytlbckkagjekhnaa.Opn.okTwo (Go.Proofs.Ytlbckkagjekhnaa.Opn.okInt .i64) (Go.Proofs.Ytlbckkagjekhnaa.Opn.okTwo (Go.Proofs.Ytlbckkagjekhnaa.Opn.okInt .i64) (Go.Proofs.Ytlbckkagjekhnaa.Opn.okInt .i64))) (x.f0, x.f1, x.f2)
def ok24 (x : S24) : Prop := (Go.Proofs.Ytlbckkagjekhnaa.Opn.okAll (Go.Proofs.Ytlbckkagjekhnaa.Opn.okAll ok71)) x.f0
theorem op2 : Go.Proofs.Ytlbckkagjekhnaa.Opn.Op Try.prog 2 (Kd.int .i64) (Go.Proofs.Ytlbckkagjekhnaa.Opn.okInt .i64) := Go.Proofs.Ytlbckkagjekhnaa.Opn.Op.int Try.underlying2
theorem op71 : Go.Proofs.Ytlbckkagjekhnaa.Opn.Op Try.prog 71 k71 ok71 := Go.Proofs.Ytlbckkagjekhnaa.Opn.Op.iso (Go.Proofs.Ytlbckkagjekhnaa.Opn.Op.struct Try.underlying71 (by kernel_rfl) (Go.Proofs.Ytlbckkagjekhnaa.Opn.OpF.cons rfl (by kernel_rfl) op2 (Go.Proofs.Ytlbckkagjekhnaa.Opn.OpF.cons rfl (by kernel_rfl) op2 (Go.Proofs.Ytlbckkagjekhnaa.Opn.OpF.one rfl (by kernel_rfl) op2)))) (fun x : S71 => (x.f0, x.f1, x.f2)) (fun p => ⟨p.1, p.2.1, p.2.2⟩) (fun _ => rfl)
theorem op25 : Go.Proofs.Ytlbckkagjekhnaa.Opn.Op Try.prog 25 (Kd.slice 71 k71) (Go.Proofs.Ytlbckkagjekhnaa.Opn.okAll ok71) := Go.Proofs.Ytlbckkagjekhnaa.Opn.Op.slice Try.underlying25 (by kernel_rfl) op71
theorem op22 : Go.Proofs.Ytlbckkagjekhnaa.Opn.Op Try.prog 22 (Kd.slice 25 (Kd.slice 71 k71)) (Go.Proofs.Ytlbckkagjekhnaa.Opn.okAll (Go.Proofs.Ytlbckkagjekhnaa.Opn.okAll ok71)) := Go.Proofs.Ytlbckkagjekhnaa.Opn.Op.slice Try.underlying22 (by kernel_rfl) op25
theorem op24 : Go.Proofs.Ytlbckkagjekhnaa.Opn.Op Try.prog 24 k24 ok24 := Go.Proofs.Ytlbckkagjekhnaa.Opn.Op.iso (Go.Proofs.Ytlbckkagjekhnaa.Opn.Op.struct Try.underlying24 (by kernel_rfl) (Go.Proofs.Ytlbckkagjekhnaa.Opn.OpF.one rfl (by kernel_rfl) op22)) (fun x : S24 => x.f0) (fun p => ⟨p⟩) (fun _ => rfl)
def FnExactRestOf.Pure : Prop := ∀ (a0 : S24) (a1 : List (S71)) (a2 : Int), ok24 a0 → (Go.Proofs.Ytlbckkagjekhnaa.Opn.okAll ok71) a1 → (Go.Proofs.Ytlbckkagjekhnaa.Opn.okInt .i64) a2 → ∃ k, laws_FnExactRestOf.f k (a0.f0) a1 a2 = some true
end Go.Proofs.Ytlbckkagjekhnaa.A

/- RestOf: the law's contract answers true. -/
namespace Go.Proofs.Ytlbckkagjekhnaa.Pure
open Go.RowKit Go.Proofs.YtlbckkagjekhnaaW.PrintWords Go.Proofs.YtlbckkagjekhnaaW.PrintLast Go.Proofs.YtlbckkagjekhnaaW.PrintMore Go.Proofs.Ytlbckkagjekhnaa.A
theorem FnExactRestOf : Go.Proofs.Ytlbckkagjekhnaa.A.FnExactRestOf.Pure := by
  intro a0 a1 a2 hok hok1 _
  refine ⟨0, ?_⟩
  unfold laws_FnExactRestOf.f
  exact if_pos ⟨hok.1, fun r hr => (hok.2 r hr).1, hok1.1⟩
end Go.Proofs.Ytlbckkagjekhnaa.Pure

